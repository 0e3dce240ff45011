import PyProof.Rows.All
import Wide.All
import OpenK.AllK
import Wide.FinOn
import HandS.ForMost
import HandS.Exc
import HandS.Defaults
import HandS.Conv
import HandS.Style
import HandS.More
import HandS.TupLen
import HandS.SetFor
import HandS.Flow
import HandS.AnyAll
import HandS.Walk
import HandS.Rev
import HandS.ListItems
import HandS.Sort
import HandS.DictTup
import HandS.HeadHook4
import HandS.HeadWalk
import HandS.Head0
import HandS.Head1
import HandS.Head2
import HandS.HeadEnd
import KE.GoesEnum
import HandS.GenYield
import HandS.SortRule
import HandS.SortInts
import KE.KDictCopyH
import HandS.Evl
import PySem.Challenge.RW_crossloom_k61_whole_any_pairing_in_one_p
/-! ## text K61A -/
set_option Elab.async false
set_option linter.all false
set_option maxRecDepth 100000
set_option maxHeartbeats 4000000
namespace Ck
open PySem PySem.Spec PyProof.Rows L2
def top (i : Nat) : Stmt := PySem.Challenge.pw_crossloom_k61_whole_any_pairing_in_one_p.main.body.getD i (.Pass ⟨0, 0, 0, 0⟩)
/-! the text by places -/
abbrev dCheckPairing : Stmt := top 8
abbrev dIsFull : Stmt := top 9
abbrev dFilled : Stmt := top 10
abbrev dTurnedOver : Stmt := top 11
abbrev dLogarithm : Stmt := top 12
abbrev dNetInit : Stmt := inClass (top 14) 0
abbrev dNetStages : Stmt := inClass (top 14) 1
abbrev dNetCheck : Stmt := inClass (top 14) 3
abbrev dNetWay : Stmt := inClass (top 14) 5
abbrev dPlainWires : Stmt := top 15
abbrev dPartedWires : Stmt := top 17
abbrev dInHalves : Stmt := top 18
abbrev dNetOf : Stmt := top 19
abbrev dHalvesOf : Stmt := top 20
abbrev dPartner : Stmt := top 21
abbrev dSettingsFor : Stmt := top 22
abbrev dCallsInit : Stmt := inClass (top 24) 0
abbrev dCallsAt : Stmt := inClass (top 24) 2
abbrev dCallsFirstFree : Stmt := inClass (top 24) 3
abbrev dCallsExchange : Stmt := inClass (top 24) 4
abbrev dCallsColour : Stmt := inClass (top 24) 5
abbrev dClosInit : Stmt := inClass (top 26) 0
abbrev dClosSize : Stmt := inClass (top 26) 1
abbrev dClosCheck : Stmt := inClass (top 26) 2
abbrev dClosEnds : Stmt := inClass (top 26) 3
abbrev dClosUsedIn : Stmt := inClass (top 26) 4
abbrev dClosUsedOut : Stmt := inClass (top 26) 5
abbrev dClosFreeMiddle : Stmt := inClass (top 26) 6
abbrev dClosPutBy : Stmt := inClass (top 26) 8
abbrev dClosEnd : Stmt := inClass (top 26) 9
abbrev dClosPutMoving : Stmt := inClass (top 26) 10
abbrev dClosExchange : Stmt := inClass (top 26) 11
abbrev dClosAt : Stmt := inClass (top 26) 12
abbrev dClosIsSound : Stmt := inClass (top 26) 13
abbrev dClosShown : Stmt := inClass (top 26) 14
abbrev dAssigned : Stmt := top 27
abbrev dCarriedNet : Stmt := top 28
abbrev dDice : Stmt := top 30
abbrev dRoll : Stmt := top 31
abbrev dRounds : Stmt := top 32
abbrev dFull : Stmt := top 33
abbrev dPart : Stmt := top 34
abbrev dLaw : Stmt := top 35

/-! the defs as data: where it stands, its name, its place in the text -/
def dOf (g : Str) (m : Option Str) (name qual : Str) (st : Stmt) : He.DefD := ⟨(g, m), name, qual, defArgs st, defBody st, defScope st, [], []⟩
def dG (g : Str) (st : Stmt) : He.DefD := dOf g none g g st
def dM (c m q : Str) (st : Stmt) : He.DefD := dOf c (some m) m q st
def defs1 : List He.DefD := [dG "check_pairing" dCheckPairing, dG "is_full" dIsFull, dG "filled" dFilled, dG "turned_over" dTurnedOver, dG "logarithm" dLogarithm,
  dM "Net" "__init__" "Net.__init__" dNetInit, dM "Net" "stages" "Net.stages" dNetStages, dM "Net" "check" "Net.check" dNetCheck, dM "Net" "way" "Net.way" dNetWay,
  dG "plain_wires" dPlainWires, dG "parted_wires" dPartedWires, dG "in_halves" dInHalves, dG "net_of" dNetOf, dG "halves_of" dHalvesOf, dG "partner" dPartner, dG "settings_for" dSettingsFor]
def defs2 : List He.DefD := [dM "Calls" "__init__" "Calls.__init__" dCallsInit, dM "Calls" "at" "Calls.at" dCallsAt, dM "Calls" "first_free" "Calls.first_free" dCallsFirstFree, dM "Calls" "exchange" "Calls.exchange" dCallsExchange, dM "Calls" "colour" "Calls.colour" dCallsColour,
  dM "Clos" "__init__" "Clos.__init__" dClosInit, dM "Clos" "size" "Clos.size" dClosSize, dM "Clos" "check" "Clos.check" dClosCheck, dM "Clos" "ends" "Clos.ends" dClosEnds, dM "Clos" "used_in" "Clos.used_in" dClosUsedIn, dM "Clos" "used_out" "Clos.used_out" dClosUsedOut,
  dM "Clos" "free_middle" "Clos.free_middle" dClosFreeMiddle, dM "Clos" "put_by" "Clos.put_by" dClosPutBy, dM "Clos" "end" "Clos.end" dClosEnd, dM "Clos" "put_moving" "Clos.put_moving" dClosPutMoving, dM "Clos" "exchange" "Clos.exchange" dClosExchange, dM "Clos" "at" "Clos.at" dClosAt,
  dM "Clos" "is_sound" "Clos.is_sound" dClosIsSound, dM "Clos" "shown" "Clos.shown" dClosShown]
def defs3 : List He.DefD := [dG "assigned" dAssigned, dG "carried_net" dCarriedNet, dG "_law_dice" dDice, dG "_law_roll" dRoll, dG "_law_rounds" dRounds, dG "_law_full" dFull, dG "_law_part" dPart, dG "law" dLaw]
def fn : List He.DefD := defs1 ++ defs2 ++ defs3
/-! the facts -/
def faG : List He.Fa := [.glo "check_pairing", .glo "is_full", .glo "filled", .glo "turned_over", .glo "logarithm", .glo "Net", .glo "plain_wires", .glo "parted_wires", .glo "in_halves", .glo "net_of", .glo "halves_of", .glo "partner", .glo "settings_for",
  .glo "Calls", .glo "Clos", .glo "assigned", .glo "carried_net", .glo "_law_dice", .glo "_law_roll", .glo "_law_rounds", .glo "_law_full", .glo "_law_part", .glo "law"]
def faF : List He.Fa := [.free "len", .free "range", .free "tuple", .free "list", .free "dict", .free "enumerate", .free "sorted", .free "any", .free "zip", .free "int", .free "abs"]
def faC : List He.Fa := [.cls "Net", .mkr "Net", .noat "Net" "many", .noat "Net" "wires", .meth "Net" "stages", .meth "Net" "check", .meth "Net" "way",
  .cls "Calls", .mkr "Calls", .noat "Calls" "calls", .noat "Calls" "left", .noat "Calls" "right", .noat "Calls" "colours", .meth "Calls" "at", .meth "Calls" "first_free", .meth "Calls" "exchange", .meth "Calls" "colour",
  .cls "Clos", .mkr "Clos", .noat "Clos" "middle", .noat "Clos" "gates", .noat "Clos" "switches", .noat "Clos" "calls", .meth "Clos" "size", .meth "Clos" "check", .meth "Clos" "ends", .meth "Clos" "used_in", .meth "Clos" "used_out", .meth "Clos" "free_middle",
  .meth "Clos" "put_by", .meth "Clos" "end", .meth "Clos" "put_moving", .meth "Clos" "exchange", .meth "Clos" "at", .meth "Clos" "is_sound", .meth "Clos" "shown"]
def fa : List He.Fa := faG ++ faF ++ faC
/-- the defs that hold generator expressions -/
def tf : List He.Defn := [("check_pairing", none), ("Net", some "__init__"), ("Net", some "check"), ("Calls", some "__init__")]
end Ck
/-! ## text K61Head -/
set_option Elab.async false
set_option linter.all false
set_option maxRecDepth 100000
set_option maxHeartbeats 0
namespace Ck
open PySem PySem.Spec PyProof.Rows L2
abbrev Rr : PySem.W.OpenRow := PySem.W.OpenLaw.row PySem.Challenge.rw_crossloom_k61_whole_any_pairing_in_one_p
abbrev hk : PySem.W.Hook := He.hookX 5 fa fn [] tf (fun _ => true)
def ob (s : PySem.W.SharedT) : He.AlX := He.obsX 5 fa fn [] tf (fun _ => true) (HandSHeadRun.getT s)
theorem ob_eq (s : PySem.W.SharedT) : ob s = hk.obs s.abs := He.obsX_eq (HandSHeadRun.getT_eq s)
def names : List Str := ["_wall", "FabricFault", "BadGate", "BadNet", "BadSize", "Blocked", "check_pairing", "is_full", "filled", "turned_over", "logarithm", "Net", "plain_wires", "parted_wires", "in_halves", "net_of", "halves_of", "partner", "settings_for", "Calls", "Clos", "assigned", "carried_net", "_law_dice", "_law_roll", "_law_rounds", "_law_full", "_law_part"]
theorem headRun (w : World) : HandSHeadRun.RunEq Rr (PySem.W.view Rr.prog [35]) hk ob 4000 names w := by
  intro os
  kernel_rfl
end Ck
/-! ## text K61B -/
set_option Elab.async false
set_option linter.all false
set_option maxRecDepth 100000
set_option maxHeartbeats 4000000
namespace Ck
open PySem PySem.Spec PyProof.Rows L2
/-! ### what is known of the top -/
abbrev FnA (K : PySem.W.Frag) (d : He.DefD) (fd : FuncData) : Prop := FunD K d.name d.qual d.params d.body d.scope [] [] (He.fAd K d.at_) fd
structure Tx (K : PySem.W.Frag) (mg : Str → Option Value) : Prop where
  fr : ∀ x, He.Fa.free x ∈ faF → mg x = none
  gl : ∀ x, He.Fa.glo x ∈ faG → mg x = some (.ref (He.ga K x))
  cl : ∀ x, He.Fa.cls x ∈ faC → Cls K (He.ga K x)
  na : ∀ x f, He.Fa.noat x f ∈ faC → NoAttr K (He.ga K x) f
  me : ∀ x m, He.Fa.meth x m ∈ faC → Meth K (He.ga K x) m (He.ma K (He.ga K x) m)
  mr : ∀ x, He.Fa.mkr x ∈ faC → Mk K (He.ga K x) (He.ma K (He.ga K x) "__init__")
  df : ∀ d ∈ fn, ∃ fd, FnA K d fd
theorem no_dfl : ∀ d ∈ fn, d.dfl = [] ∧ d.kwd = [] := by
  intro d hd
  unfold fn defs1 defs2 defs3 at hd
  simp only [List.cons_append, List.nil_append, List.mem_cons, List.not_mem_nil, or_false] at hd
  rcases hd with h | h | h | h | h | h | h | h | h | h | h | h | h | h | h | h | h | h | h | h | h | h | h | h | h | h | h | h | h | h | h | h | h | h | h | h | h | h | h | h | h | h | h <;> (rw [h]; exact ⟨rfl, rfl⟩)
theorem Tx.of {K : PySem.W.Frag} {h : Heap} {mg : Str → Option Value} (X : K.In h) (G : h.Ns mainGlobals mg) (c : He.SaysD fa fn K) : Tx K mg := by
  have inF : ∀ f, f ∈ faF → f ∈ fa := fun f hf => List.mem_append_left _ (List.mem_append_right _ hf)
  have inG : ∀ f, f ∈ faG → f ∈ fa := fun f hf => List.mem_append_left _ (List.mem_append_left _ hf)
  have inC : ∀ f, f ∈ faC → f ∈ fa := fun f hf => List.mem_append_right _ hf
  refine ⟨fun x hx => He.free_ok X G (c.facts (inF _ hx)), fun x hx => He.glo_ok X G (c.facts (inG _ hx)), fun x hx => He.cls_ok (c.facts (inC _ hx)), fun x f hx => He.noat_ok (c.facts (inC _ hx)),
    fun x m hx => He.meth_ok (c.facts (inC _ hx)), fun x hx => He.mkr_ok (c.facts (inC _ hx)), fun d hd => ?_⟩
  obtain ⟨fd, F⟩ := c.defs hd
  obtain ⟨e1, e2⟩ := no_dfl d hd
  have k1 : d.dvs K = [] := by unfold He.DefD.dvs; rw [e1]; rfl
  have k2 : d.kws K = [] := by unfold He.DefD.kws; rw [e2]; rfl
  rw [k1, k2] at F
  exact ⟨fd, F⟩
section
variable {P : Program} {w : World} {K : PySem.W.Frag} {mg : Str → Option Value} {base : Heap}
/-- a def called by its name -/
structure GDef (P : Program) (w : World) (K : PySem.W.Frag) (mg : Str → Option Value) (base : Heap) (x : Str) (k : Nat) (ps : List Str) (sp : Sp) : Prop where
  ex : ∃ f fd, FnOk P w K mg base CX0 k f fd ps sp ∧ mg x = some (.ref f) ∧ PySem.W.keepIn K (.ref f) = true ∧ Binds K fd ps []
/-- a method -/
structure MDef (P : Program) (w : World) (K : PySem.W.Frag) (mg : Str → Option Value) (base : Heap) (C : Addr) (m : Str) (k : Nat) (ps : List Str) (sp : Sp) : Prop where
  ex : ∃ f fd, FnOk P w K mg base CX0 k f fd ps sp ∧ Meth K C m f ∧ Binds K fd ps []
/-- a class by its __init__ -/
structure KDef (P : Program) (w : World) (K : PySem.W.Frag) (mg : Str → Option Value) (base : Heap) (x : Str) (C : Addr) (k : Nat) (ps : List Str) (sp : Sp) : Prop where
  ex : ∃ f fd, FnOk P w K mg base CX0 k f fd ps sp ∧ mg x = some (.ref C) ∧ Mk K C f ∧ Binds K fd ps []
theorem GDef.mono {x : Str} {j k : Nat} {ps : List Str} {sp : Sp} (D : GDef P w K mg base x j ps sp) (h : j ≤ k) : GDef P w K mg base x k ps sp := by
  obtain ⟨f, fd, F, r⟩ := D.ex
  exact ⟨f, fd, F.mono h, r⟩
theorem MDef.mono {C : Addr} {m : Str} {j k : Nat} {ps : List Str} {sp : Sp} (D : MDef P w K mg base C m j ps sp) (h : j ≤ k) : MDef P w K mg base C m k ps sp := by
  obtain ⟨f, fd, F, r⟩ := D.ex
  exact ⟨f, fd, F.mono h, r⟩
section
variable {X : Cx} {x m : Str} {C : Addr} {k : Nat} {ps : List Str} {sp : Sp} {p pos apos : Pos} {e o : Expr} {es : List Expr} {t : TA} {ta : TE}
theorem pe_g (D : GDef X.prog X.w X.K X.mg X.base x k ps sp) (hr : Room k X.A) (hg : Gl X x) (ha : PA X (e :: es) t) (hdb : (x == ("__debug__" : Str)) = false := by decide)
    (he : starEach (e :: es) X.env = (false, eval e X.env) :: starEach es X.env := by rfl) (hpl : (backTo pos (starEach es X.env)).any (·.1) = false := by rfl) : PE X (.Call (.Name x p) (e :: es) [] pos) (tCall sp [] E0 t) := by
  obtain ⟨f, fd, F, hm, kp, b⟩ := D.ex
  exact pe_call F hr hg hm kp b .nil pass0 ha hdb he hpl
theorem pe_m {pl : Sem Bool} (D : MDef X.prog X.w X.K X.mg X.base C m k ps sp) (c : Cls X.K C) (hr : Room k X.A) (ho : PE X o ta) (ha : PA X (e :: es) t)
    (hst : starEach (e :: es) X.env = (false, eval e X.env) :: starEach es X.env := by rfl) (hpl : (backTo pos (starEach es X.env)).any (·.1) = false := by rfl)
    (ht : eval (.Call (.Attribute o m apos) (e :: es) [] pos) X.env = (do
      let ov ← eval o X.env
      standAt apos.atName
      let (f, first) ← holding [ov] (getMethod ov m pl)
      callWith pos f first (backTo pos (starEach (e :: es) X.env)) (backToKw pos (keywordEach [] X.env))) := by rfl) :
    PE X (.Call (.Attribute o m apos) (e :: es) [] pos) (tMeth C m sp [] E0 ta t) := by
  obtain ⟨f, fd, F, hm, b⟩ := D.ex
  exact pe_meth ho c hm F hr b .nil pass0 ha hst hpl ht
theorem pe_m0 {pl : Sem Bool} (D : MDef X.prog X.w X.K X.mg X.base C m k ps sp) (c : Cls X.K C) (hr : Room k X.A) (ho : PE X o ta)
    (ht : eval (.Call (.Attribute o m apos) [] [] pos) X.env = (do
      let ov ← eval o X.env
      standAt apos.atName
      let (f, first) ← holding [ov] (getMethod ov m pl)
      callWith pos f first (backTo pos (starEach [] X.env)) (backToKw pos (keywordEach [] X.env))) := by rfl) :
    PE X (.Call (.Attribute o m apos) [] [] pos) (tMeth C m sp [] E0 ta tNil) := by
  obtain ⟨f, fd, F, hm, b⟩ := D.ex
  exact pe_meth0 ho c hm F hr b .nil pass0 ht
theorem pe_k (D : KDef X.prog X.w X.K X.mg X.base x C k ps sp) (hr : Room (k + 1) X.A) (hg : Gl X x) (ha : PA X (e :: es) t) (hdb : (x == ("__debug__" : Str)) = false := by decide)
    (he : starEach (e :: es) X.env = (false, eval e X.env) :: starEach es X.env := by rfl) (hpl : (backTo pos (starEach es X.env)).any (·.1) = false := by rfl) : PE X (.Call (.Name x p) (e :: es) [] pos) (tMake C sp [] E0 t) := by
  obtain ⟨f, fd, F, hm, M, b⟩ := D.ex
  exact pe_make M F hr hg hm b .nil pass0 ha hdb he hpl
end
/-- the def's own theorem gives its GDef, MDef, KDef -/
abbrev BindsBy (d : He.DefD) (ps : List Str) : Prop := ∀ (kV doc pm : Value) (an : Option Addr) (cdv ct : Value) (us : List Value), us.length = ps.length → bindArgs (PySem.W.fnOf d.name d.qual d.params d.body d.scope .none kV doc pm an cdv ct) ⟨us, []⟩ = pure (ps.zip us)
abbrev BodyOk (P : Program) (w : World) (K : PySem.W.Frag) (mg : Str → Option Value) (base : Heap) (d : He.DefD) (k : Nat) (N : List Str) (sp : Sp) : Prop :=
  ∀ (f : Addr) (cdv : Value) (A : Around) (outer : List Env) (s : Shared) (H : Hp) (vs : List V) (Q : VK) (E : XK), cdv = .ref (He.codeOf K d.at_) → Room k (A.deeper (envOfC d.qual d.scope s.heap.objs.size f cdv)) → sp vs H Q E →
      ∃ t, PSs (cxOf CX0 P w K mg base N d.qual d.scope f cdv A outer s H E).nox d.body t ∧ t { nx := fun _ H' => Q .non H', rt := Q } (start N vs) H
theorem fnok {d : He.DefD} {fd : FuncData} {N ps : List Str} {k : Nat} {sp : Sp} (F : FnA K d fd) (S : FnScope N ps d.scope) (len : ∀ vs H Q E, sp vs H Q E → vs.length = ps.length) (hb : BodyOk P w K mg base d k N sp) :
    FnOk P w K mg base CX0 (k + 1) (He.fAd K d.at_) fd ps sp := by
  obtain ⟨oc, od, dV, kV, doc, pm, an, cdv, ct, osl, rfl, lk, hcd, _, _⟩ := F.ex
  have ec : cdv = .ref (He.codeOf K d.at_) := by
    obtain ⟨c, e⟩ := He.codeIn_ref hcd
    rw [He.codeOf_eq lk e, e]
  refine fn_of lk hcd S len fun A outer s H vs Q E hr hsp => ?_
  obtain ⟨t, h, q⟩ := hb (He.fAd K d.at_) cdv A outer s H vs Q E ec hr hsp
  exact ⟨t, h.nox, q⟩
theorem gdef {g : Str} {st : Stmt} {N ps : List Str} {k : Nat} {sp : Sp} (T : Tx K mg) (hd : dG g st ∈ fn) (hg : He.Fa.glo g ∈ faG) (S : FnScope N ps (defScope st)) (len : ∀ vs H Q E, sp vs H Q E → vs.length = ps.length) (hbd : BindsBy (dG g st) ps)
    (hb : BodyOk P w K mg base (dG g st) k N sp) : GDef P w K mg base g (k + 1) ps sp := by
  obtain ⟨fd, F⟩ := T.df _ hd
  exact ⟨_, fd, fnok F S len hb, T.gl g hg, F.kp, F.bindsN hbd⟩
theorem mdef {c m q : Str} {st : Stmt} {N ps : List Str} {k : Nat} {sp : Sp} (T : Tx K mg) (hd : dM c m q st ∈ fn) (hm : He.Fa.meth c m ∈ faC) (S : FnScope N ps (defScope st)) (len : ∀ vs H Q E, sp vs H Q E → vs.length = ps.length) (hbd : BindsBy (dM c m q st) ps)
    (hb : BodyOk P w K mg base (dM c m q st) k N sp) : MDef P w K mg base (He.ga K c) m (k + 1) ps sp := by
  obtain ⟨fd, F⟩ := T.df _ hd
  exact ⟨_, fd, fnok F S len hb, T.me c m hm, F.bindsN hbd⟩
theorem kdef {c q : Str} {st : Stmt} {N ps : List Str} {k : Nat} {sp : Sp} (T : Tx K mg) (hd : dM c "__init__" q st ∈ fn) (hm : He.Fa.mkr c ∈ faC) (hg : He.Fa.glo c ∈ faG) (S : FnScope N ps (defScope st)) (len : ∀ vs H Q E, sp vs H Q E → vs.length = ps.length) (hbd : BindsBy (dM c "__init__" q st) ps)
    (hb : BodyOk P w K mg base (dM c "__init__" q st) k N sp) : KDef P w K mg base c (He.ga K c) (k + 1) ps sp := by
  obtain ⟨fd, F⟩ := T.df _ hd
  exact ⟨_, fd, fnok F S len hb, T.gl c hg, T.mr c hm, F.bindsN hbd⟩
end
/-! ### heaps -/
theorem same_upd {H : Hp} {p : Addr} {o : HO} (h : H p = none) : Same H (upd H p o) := fun b x e => by
  rw [upd_ne (ne_of_none e h)]
  exact e
theorem Same.up {H H1 : Hp} (s : Same H H1) {p : Addr} {o : HO} (h : H p = none) : Same H (upd H1 p o) := fun b x e => by
  rw [upd_ne (ne_of_none e h)]
  exact s b x e
theorem same_ne {H H' : Hp} (s : Same H H') {a p : Addr} {o : HO} (h : H a = some o) (n : H' p = none) : a ≠ p := ne_of_none (s a o h) n
end Ck
/-! ## text K61R1 -/
set_option Elab.async false
set_option linter.all false
set_option maxRecDepth 100000
set_option maxHeartbeats 4000000
namespace Ck
open PySem PySem.Spec PyProof.Rows L2
section
variable {X : Cx}
/-! ### x *= y -/
theorem ip_mul : PIp X .Mult (rI CMul fun i j => .int (i * j)) := fun pins s σ H x y v u Q I rx ry h => by
  obtain ⟨i, j, e1, e2, hc, q⟩ := h
  subst e1 e2
  obtain ⟨t, rfl⟩ := rx
  obtain ⟨t2, rfl⟩ := ry
  exact imul_int ⟨.int (i * j), H, I.tok _, ⟨_, rfl⟩, q⟩ hc.ok
end
/-! ### enumerate of a tuple -/
theorem enum1_new {v : Value} {o : Obj} {Hb : Heap → Prop} (B : Begins v o Hb) :
    Meets (Builtin.«enumerate.__new__» ⟨[.type "enumerate", v], []⟩) fun _ R s => Hb s.heap ∧
      R (.ok (.ret (.ref (s.heap.push o).objs.size))) { s with heap := (s.heap.push o).push { cls := .type "enumerate", data := .fields #[.none, .bool false, .ref s.heap.objs.size, rawInt 0, .none, .none] } } :=
  .of_wp fun prog w A R s hs => by
    obtain ⟨hp, g, d, tk, os⟩ := s
    obtain ⟨hb, hR⟩ := hs
    have sub1 := sub_enumerate
    have begin_ : ∀ {A1 : Around} {E1 Q1 : Value → Shared → Prop}, Q1 (.ref hp.objs.size) ⟨hp.push o, g, d, tk, os⟩ → wpAny (model prog w) A1 (pyIter v) Q1 E1 ⟨hp, g, d, tk, os⟩ :=
      fun z => B.iter prog w _ _ ⟨hp, g, d, tk, os⟩ _ hb z
    wp_walk using begin_
    refine wpAny_stack_any fun acts => wpAny_pure ?_
    split
    · rename_i c _ _ _ _ _
      cases (c == Value.type "enumerate")
      all_goals
        wp_walk using begin_
        exact ⟨_, rfl, hR⟩
    · wp_walk using begin_
      exact ⟨_, rfl, hR⟩
theorem enum1_call {prog : Program} {w : World} {A : Around} {E : Value → Shared → Prop} {s : Shared} {v : Value} {o : Obj} {Hb : Heap → Prop} {Q : Value → Shared → Prop} (B : Begins v o Hb) (hb : Hb s.heap)
    (k : ∀ h', IsEnum h' (s.heap.objs.size + 1) s.heap.objs.size 0 .none → h'.get? s.heap.objs.size = some o → (∀ b u, s.heap.get? b = some u → h'.get? b = some u) → Q (.ref (s.heap.objs.size + 1)) { s with heap := h' }) :
    wpAny (model prog w) A (call (.type "enumerate") [v]) Q E s := by
  refine callType_new F.called_enumerate (by decide) (F.typeCall_enumerate_1 _) (F.newCall_enumerate_1 _) (fun obj => F.args_object_init_2 obj _) F.entry_enumerate_new (enum1_new B) ⟨hb, ?_⟩
  have z1 : (s.heap.push o).objs.size = s.heap.objs.size + 1 := Heap.size_push ..
  show _ ∧ _
  rw [z1]
  have z2 : IsEnum ((s.heap.push o).push { cls := .type "enumerate", data := .fields #[.none, .bool false, .ref s.heap.objs.size, rawInt 0, .none, .none] }) (s.heap.objs.size + 1) s.heap.objs.size 0 .none := by
    have z3 := Heap.get?_push_size (s.heap.push o) (o := { cls := .type "enumerate", data := .fields #[.none, .bool false, .ref s.heap.objs.size, rawInt 0, .none, .none] }) rfl
    rw [z1] at z3
    exact z3
  exact ⟨⟨_, z2, rfl⟩, k _ z2 (Heap.get?_push_of_some _ (Heap.get?_push_size _ B.free)) fun b u e => Heap.get?_push_of_some _ (Heap.get?_push_of_some _ e)⟩
/-- a turn of it: a new pair of the place and the item -/
def ItE (K : PySem.W.Frag) (a : Addr) : It where
  go := fun i H => ∃ (xs : List V) (x : V), SqT K H a xs ∧ xs[i]? = some x
  yld := fun i H v H' => ∃ T x, v = .ref T ∧ H T = none ∧ H' = upd H T (.tup [.int (i : Nat), x]) ∧ ∀ xs, SqT K H a xs → xs[i]? = some x
  stop := fun i H => ∃ xs : List V, SqT K H a xs ∧ xs.length = i
theorem turn_enumT {P : Program} {w : World} {K : PySem.W.Frag} {elts : List Expr} {kk : Nat} {tpos : Pos} (a e it : Addr) :
    Turn P w K (.Tuple elts kk tpos) (ItE K a) [e, it] e (fun i h => (∃ old, IsEnum h e it ((i : Nat) : Int) old) ∧ h.IsTupleIter it a i ∧ e ≠ it ∧ a ≠ it) where
  mem := List.mem_cons_self
  obj := fun i h st b hb => by
    obtain ⟨⟨old, he⟩, ⟨o, ho, hc, hd⟩, _⟩ := st
    rcases List.mem_cons.mp hb with z | z
    · subst z
      exact ⟨_, he, fun v q => nomatch q⟩
    · rw [List.mem_singleton.mp z]
      exact ⟨o, ho, fun v q => by rw [hd] at q; cases q⟩
  keep := fun i h h' st k => by
    obtain ⟨⟨old, he⟩, hi, hne⟩ := st
    exact ⟨⟨old, k e (by simp) _ he⟩, hi.at fun o q => k it (by simp) o q, hne⟩
  item := by
    intro X hP hw hK hc i pins s σ H E I hf st hg
    subst hP hw hK
    obtain ⟨⟨old, he⟩, hit, hne, hai⟩ := st
    obtain ⟨xs, x, hq, hx⟩ := hg
    obtain ⟨its, rv, p, hz⟩ := I.tuple hq
    obtain ⟨u, hu, ru⟩ := rv.get hx
    have le_ : e < s.heap.objs.size := Heap.lt_size he
    have li : it < s.heap.objs.size := by
      obtain ⟨_, q, _⟩ := hit
      exact Heap.lt_size q
    have p' : s.heap.IsTuple a its.toArray := p
    have hlt : i < its.length := (List.getElem?_eq_some_iff.mp hu).1
    have hef : e ∉ [it, a] := fun z => by
      rcases List.mem_cons.mp z with z | z
      · exact hne z
      · obtain ⟨o, ho, hc1, _⟩ := p'
        rw [← List.mem_singleton.mp z] at ho
        have he2 : s.heap.get? e = some _ := he
        rw [he2] at ho
        cases ho
        exact absurd (Value.type.inj hc1) (by decide)
    refine wpAny_pyNext_enum_itemD (Draws.tuple (A := X.A.in1) (I.ok.hd hc) it a hai its.toArray) he ⟨hit, p'⟩ (by simpa using hlt) hne hef fun x2 h' tk hx2 ho hst hT hsz hk => ?_
    refine ⟨_, rfl, wpAny_letOwnedTupleGo_enum ho fun h'' he' sb => ?_⟩
    have ex2 : x2 = u := by
      have z : its.toArray[i]? = some x2 := hx2
      rw [List.getElem?_toArray, hu] at z
      exact (Option.some.inj z).symm
    subst ex2
    have hT2 : h''.get? s.heap.objs.size = some { cls := .type "tuple", data := .seq #[.int i tk, x2] } := (sb.2 _ (Nat.ne_of_gt le_)).trans hT
    have new : ObjOk X.prog X.w (upd H s.heap.objs.size (.tup [.int (i : Nat), x])) h'' s.heap.objs.size (.tup [.int (i : Nat), x]) :=
      ⟨by show 2 ≤ sizeLine; decide, [.int i tk, x2], .cons ⟨_, rfl⟩ (.cons ru .nil), ⟨_, hT2, rfl, _, rfl⟩⟩
    have J : Inv X pins σ (upd H s.heap.objs.size (.tup [.int (i : Nat), x])) { s with heap := h'', toks := tk + 1 } :=
      I.turnedNew (ch := [e, it]) (fun b ob hb q => (sb.2 b (fun z => hb (by simp [z]))).trans (hk b ob (fun z => hb (by simp [z])) (fun z => hb (by simp [z])) q)) hf (Nat.le_refl _) new
    refine ⟨.ref s.heap.objs.size, _, J, rfl, ⟨_, x, rfl, I.hok.fresh (Nat.le_refl _), rfl, fun ys hy => by rw [I.tuple_inj hy hq]; exact hx⟩, ⟨⟨x2, ?_⟩, hst.1.at fun o q => (sb.2 it (Ne.symm hne)).trans q, hne, hai⟩, fun b hb => ?_⟩
    · have e1 : ((i + 1 : Nat) : Int) = (i : Int) + 1 := by omega
      rw [e1]
      exact he'
    · have hb' : b < s.heap.objs.size := by
        rcases List.mem_cons.mp hb with z | z
        · rw [z]; exact le_
        · rw [List.mem_singleton.mp z]; exact li
      rw [upd_ne (Nat.ne_of_lt hb')]
      exact (hf b hb).1
  done := by
    intro X hP hw hK hc i pins s σ H E I hf st hg
    subst hP hw hK
    obtain ⟨⟨old, he⟩, hit, hne, hai⟩ := st
    obtain ⟨xs, hq, hx⟩ := hg
    obtain ⟨its, rv, p, hz⟩ := I.tuple hq
    have p' : s.heap.IsTuple a its.toArray := p
    obtain ⟨f0, f1, f2, f3, f4, f5⟩ := hf it (by simp)
    have hl : its.toArray.size = i := by rw [List.size_toArray, ← rv.length, hx]
    subst hl
    exact wpAny_pyNext_enum_endD (Draws.tuple (A := X.A.in1) (I.ok.hd hc) it a hai its.toArray) he ⟨hit, p'⟩ fun h' eb => ⟨rfl, I.turned (t' := s.toks) (fun b o hb q => eb b o hb q) f0 f1 f3 f4 f5⟩
  self := fun A i s Q E st h => by
    obtain ⟨⟨_, he⟩, _⟩ := st
    exact wpAny_pyIter_enum he h
def iEnumT (K : PySem.W.Frag) (ta : TA) : TI := fun σ H R => ta σ H fun vs H1 => ∃ a xs, vs = [.ref a] ∧ SqT K H1 a xs ∧ R (ItE K a) H1
theorem pi_enumT {X : Cx} {e : Expr} {ta : TA} {p pos tpos : Pos} {elts : List Expr} {kk : Nat} (hg : Gl X "enumerate") (hm : X.mg "enumerate" = none) (ha : PA X [e] ta) (hs : starEach [e] X.env = [(false, eval e X.env)] := by rfl) :
    PI X (.Tuple elts kk tpos) (.Call (.Name "enumerate" p) [e] [] pos) (iEnumT X.K ta) := by
  refine ⟨fun pins s σ H R I h => ?_⟩
  refine Call_ (ld_blt I hg hm boot_enumerate (PyProof.Rows.callWith_type1 (thn (ha.run pos pins s σ H _ I h) fun us s1 ⟨vs, H1, I1, r1, q1⟩ => ?_) hs rfl))
  obtain ⟨a, xs, ex, hq, q⟩ := q1
  subst ex
  obtain ⟨u, rfl, ru⟩ := vals1 r1
  obtain rfl : u = .ref a := ru
  obtain ⟨its, rv, p', hz⟩ := I1.tuple hq
  have p2 : s1.heap.IsTuple a its.toArray := p'
  have la : a < s1.heap.objs.size := by
    obtain ⟨o, ho, _⟩ := id p2
    exact Heap.lt_size ho
  refine enum1_call (begins_tuple a its.toArray) p2 fun h' he hit hk => wpAny_pyIter_enum he ?_
  have I2 : Inv X pins σ H1 { s1 with heap := h' } := I1.kept (t' := s1.toks) hk
  refine ⟨s1.heap.objs.size + 1, [s1.heap.objs.size + 1, s1.heap.objs.size], _, _, H1, rfl, I2, turn_enumT a (s1.heap.objs.size + 1) s1.heap.objs.size, ⟨⟨.none, he⟩, ⟨_, hit, rfl, rfl⟩, Nat.succ_ne_self _, Nat.ne_of_lt la⟩, fun b hb => ?_, q⟩
  have hle : s1.heap.objs.size ≤ b := by
    rcases List.mem_cons.mp hb with z | z
    · rw [z]; exact Nat.le_add_right _ _
    · rw [List.mem_singleton.mp z]; exact Nat.le_refl _
  exact I1.fpOk hle (I1.hok.fresh hle)
end Ck
/-! ## text K61M -/
set_option linter.all false
namespace Ck
/-! the mathematics: plain functions -/
def pt (g : Nat) : Nat := if g % 2 = 0 then g + 1 else g - 1
theorem pt_int (g : Nat) : (g : Int) + 1 - 2 * ((g : Int) % 2) = ((pt g : Nat) : Int) := by
  unfold pt
  split <;> omega
theorem pt_pt (g : Nat) : pt (pt g) = g := by
  unfold pt
  split <;> split <;> omega
theorem pt_ne (g : Nat) : pt g ≠ g := by
  unfold pt
  split <;> omega
theorem pt_lt {g n : Nat} (h : g < n) (e : n % 2 = 0) : pt g < n := by
  unfold pt
  split <;> omega
theorem pt_div (g : Nat) : pt g / 2 = g / 2 := by
  unfold pt
  split <;> omega
theorem pt_mod (g : Nat) : pt g % 2 = 1 - g % 2 := by
  unfold pt
  split <;> omega
end Ck
/-! ## text K61C -/
set_option Elab.async false
set_option linter.all false
set_option maxRecDepth 100000
set_option maxHeartbeats 4000000
namespace Ck
open PySem PySem.Spec PyProof.Rows L2
def nv (n : Nat) : V := .int (n : Int)
def ov : Option Nat → V
  | none => .non
  | some n => nv n
section
variable {P : Program} {w : World} {K : PySem.W.Frag} {mg : Str → Option Value} {base : Heap}
/-! ### partner -/
def spPartner : Sp := fun vs H Q _ => ∃ g : Nat, vs = [nv g] ∧ Q (nv (pt g)) H
theorem sc_partner : FnScope ["gate"] ["gate"] (defScope dPartner) := ⟨rfl, rfl, rfl, by decide +kernel, rfl, by decide +kernel, by decide +kernel⟩
theorem g_partner (T : Tx K mg) : GDef P w K mg base "partner" 1 ["gate"] spPartner := by
  refine gdef (st := dPartner) T (by unfold fn defs1; simp) (by unfold faG; simp) sc_partner (fun vs H Q E h => ?_) (fun _ _ _ _ _ _ us hl => match us, hl with | [_], _ => rfl) (fun f cdv A outer s H vs Q E ec hr h => ?_)
  · obtain ⟨g, rfl, _⟩ := h
    rfl
  · obtain ⟨g, rfl, k⟩ := h
    refine ⟨_, pss_one (ps_ret (pe_op op_sub (pe_op op_add (pv 0) pe_int) (pe_op op_mul pe_int (pe_op op_mod (pv 0) pe_int)))), ?_⟩
    refine ⟨_, rfl, _, _, rfl, rfl, _, rfl, _, _, rfl, rfl, (by show (0 : Int) < 2; decide), _, _, rfl, rfl, .inl ⟨by decide, by decide⟩, _, _, rfl, rfl, ?_⟩
    show Q (.int ((g : Int) + 1 - 2 * ((g : Int) % 2))) H
    rw [pt_int]
    exact k
end
end Ck
/-! ## text K61D -/
set_option Elab.async false
set_option linter.all false
set_option maxRecDepth 100000
set_option maxHeartbeats 4000000
namespace Ck
open PySem PySem.Spec PyProof.Rows L2
/-! ### helpers -/
theorem rmap_succ {α : Type} (f : Nat → α) (i : Nat) : (List.range (i + 1)).map f = (List.range i).map f ++ [f i] := by
  rw [List.range_succ, List.map_append]
  rfl
theorem small {n : Nat} (h : n ≤ 100) : n < sizeLine := Nat.lt_of_le_of_lt h (by decide)
theorem small' {n : Nat} (h : n ≤ 100) : n ≤ sizeLine := Nat.le_of_lt (small h)
/-- a comprehension's list so far -/
def LcP (H1 : Hp) (D : Addr) (acc : Nat → List V) (i : Nat) (H : Hp) : Prop := Same H1 H ∧ H D = some (.lst (acc i))
theorem lc_start {H1 : Hp} {D : Addr} {acc : Nat → List V} (nD : H1 D = none) (h : acc 0 = []) : LcP H1 D acc 0 (upd H1 D (.lst [])) := ⟨same_upd nD, by rw [upd_same, h]⟩
theorem lc_put {H1 H H4 : Hp} {D : Addr} {acc : Nat → List V} {i : Nat} {y : V} (nD : H1 D = none) (p : LcP H1 D acc i H) (s : Same H H4) (e : acc (i + 1) = acc i ++ [y]) (hl : (acc i).length ≤ 100) :
    ∃ a, H4 D = some (.lst a) ∧ a.length < sizeLine ∧ LcP H1 D acc (i + 1) (upd H4 D (.lst (a ++ [y]))) :=
  ⟨acc i, s _ _ p.2, small hl, Same.up (p.1.trans s) nD, by rw [upd_same, e]⟩
theorem tyes {σ : L2.St} {H : Hp} {F G : Hp → Prop} (h : F H) : tYes σ H fun b H3 => if b = true then F H3 else G H3 := by
  show (if true = true then F H else G H)
  rw [if_pos rfl]
  exact h
theorem rgV_nat (n : Nat) : rgV 0 (n : Int) = (List.range n).map nv := by
  unfold rgV
  have e : ((n : Int) - 0).toNat = n := by omega
  rw [e]
  refine List.map_congr_left fun i _ => ?_
  show V.int (0 + (i : Int)) = V.int (i : Int)
  rw [Int.zero_add]
theorem nv_get {xs : List Nat} {i : Nat} (h : i < xs.length) : (xs.map nv)[i]? = some (nv xs[i]) := by
  rw [List.getElem?_map, List.getElem?_eq_getElem h]
  rfl
section
variable {P : Program} {w : World} {K : PySem.W.Frag} {mg : Str → Option Value} {base : Heap}
theorem fF (T : Tx K mg) : mg "len" = none ∧ mg "range" = none ∧ mg "tuple" = none ∧ mg "list" = none ∧ mg "dict" = none ∧ mg "enumerate" = none ∧ mg "sorted" = none ∧ mg "any" = none ∧ mg "zip" = none ∧ mg "int" = none ∧ mg "abs" = none :=
  ⟨T.fr _ (by simp [faF]), T.fr _ (by simp [faF]), T.fr _ (by simp [faF]), T.fr _ (by simp [faF]), T.fr _ (by simp [faF]), T.fr _ (by simp [faF]), T.fr _ (by simp [faF]), T.fr _ (by simp [faF]), T.fr _ (by simp [faF]), T.fr _ (by simp [faF]), T.fr _ (by simp [faF])⟩
theorem Tx.len (T : Tx K mg) : mg "len" = none := (fF T).1
theorem Tx.range (T : Tx K mg) : mg "range" = none := (fF T).2.1
theorem Tx.tuple (T : Tx K mg) : mg "tuple" = none := (fF T).2.2.1
theorem Tx.list (T : Tx K mg) : mg "list" = none := (fF T).2.2.2.1
theorem Tx.dict (T : Tx K mg) : mg "dict" = none := (fF T).2.2.2.2.1
theorem Tx.enumerate (T : Tx K mg) : mg "enumerate" = none := (fF T).2.2.2.2.2.1
theorem Tx.sorted (T : Tx K mg) : mg "sorted" = none := (fF T).2.2.2.2.2.2.1
theorem Tx.any (T : Tx K mg) : mg "any" = none := (fF T).2.2.2.2.2.2.2.1
theorem Tx.zip (T : Tx K mg) : mg "zip" = none := (fF T).2.2.2.2.2.2.2.2.1
theorem Tx.int (T : Tx K mg) : mg "int" = none := (fF T).2.2.2.2.2.2.2.2.2.1
theorem Tx.abs (T : Tx K mg) : mg "abs" = none := (fF T).2.2.2.2.2.2.2.2.2.2
/-! ### is_full -/
def spIsFull : Sp := fun vs H Q _ => ∃ (a : Addr) (fs : List Nat), vs = [.ref a] ∧ H a = some (.tup (fs.map nv)) ∧ Q (.bl true) H
theorem sc_isFull : FnScope ["pairs"] ["pairs"] (defScope dIsFull) := ⟨rfl, rfl, rfl, by decide +kernel, rfl, by decide +kernel, by decide +kernel⟩
theorem flat_nv (fs : List Nat) : (fs.map nv).all flatV = true := by
  rw [List.all_map]
  exact List.all_eq_true.mpr fun _ _ => rfl
theorem none_not_in (fs : List Nat) : inV .non (fs.map nv) = false := by
  unfold inV
  rw [List.any_map]
  exact List.any_eq_false.mpr fun x _ => Bool.false_ne_true
theorem g_isFull (T : Tx K mg) : GDef P w K mg base "is_full" 1 ["pairs"] spIsFull := by
  refine gdef (st := dIsFull) T (by unfold fn defs1; simp) (by unfold faG; simp) sc_isFull (fun vs H Q E h => ?_) (fun _ _ _ _ _ _ us hl => match us, hl with | [_], _ => rfl) (fun f cdv A outer s H vs Q E ec hr h => ?_)
  · obtain ⟨a, fs, rfl, _⟩ := h
    rfl
  · obtain ⟨a, fs, rfl, ha, k⟩ := h
    refine ⟨_, pss_one (ps_ret (pe_cmpR op_notIn_seq pe_non (pv 0) (by rfl))), ?_⟩
    refine ⟨_, rfl, a, fs.map nv, rfl, .inr (SqT.of ha), rfl, flat_nv fs, ?_⟩
    rw [none_not_in]
    exact k
/-! ### plain_wires -/
def spPlainWires : Sp := fun vs H Q _ => ∃ n : Nat, vs = [nv n] ∧ n ≤ 100 ∧ ∀ p, H p = none → Q (.ref p) (upd H p (.tup ((List.range n).map nv)))
theorem sc_plainWires : FnScope ["many"] ["many"] (defScope dPlainWires) := ⟨rfl, rfl, rfl, by decide +kernel, rfl, by decide +kernel, by decide +kernel⟩
theorem g_plainWires (T : Tx K mg) : GDef P w K mg base "plain_wires" 1 ["many"] spPlainWires := by
  refine gdef (st := dPlainWires) T (by unfold fn defs1; simp) (by unfold faG; simp) sc_plainWires (fun vs H Q E h => ?_) (fun _ _ _ _ _ _ us hl => match us, hl with | [_], _ => rfl) (fun f cdv A outer s H vs Q E ec hr h => ?_)
  · obtain ⟨n, rfl, _⟩ := h
    rfl
  · obtain ⟨n, rfl, hn, k⟩ := h
    refine ⟨_, pss_one (ps_ret (pe_tupRg rfl (by rfl) T.tuple (prg_1 (by rfl) T.range (pv 0)))), ?_⟩
    refine ⟨_, rfl, _, rfl, ⟨by omega, by omega, by omega, by omega, by omega⟩, fun q nq => ?_⟩
    rw [rgV_nat]
    exact k q nq
/-! ### parted_wires -/
def outL (n : Nat) : List Nat := (List.range n).map fun p => p / 2 + p % 2 * (n / 2)
def spPartedWires : Sp := fun vs H Q _ => ∃ n : Nat, vs = [nv n] ∧ n ≤ 100 ∧ ∀ p H', Same H H' → H p = none → H' p = some (.tup ((outL n).map nv)) → Q (.ref p) H'
theorem sc_partedWires : FnScope ["many", "place"] ["many"] (defScope dPartedWires) := ⟨rfl, rfl, rfl, by decide +kernel, rfl, by decide +kernel, by decide +kernel⟩
theorem g_partedWires (T : Tx K mg) : GDef P w K mg base "parted_wires" 1 ["many"] spPartedWires := by
  refine gdef (st := dPartedWires) T (by unfold fn defs1; simp) (by unfold faG; simp) sc_partedWires (fun vs H Q E h => ?_) (fun _ _ _ _ _ _ us hl => match us, hl with | [_], _ => rfl) (fun f cdv A outer s H vs Q E ec hr h => ?_)
  · obtain ⟨n, rfl, _⟩ := h
    rfl
  · obtain ⟨n, rfl, hn, k⟩ := h
    have nd := sc_partedWires.nd
    refine ⟨_, pss_one (ps_ret (pe_tupleOf (by rfl) T.tuple (pe_lc (own := [("place", 1)]) (g := gName 1) (tt := tYes) rfl nd (pi_range1 (by rfl) T.range (pa_cons (pv 0) pa_nil))
      (blkOk_by (N := ["many", "place"]) (sc := defScope dPartedWires) (own := [("place", 1)]) (by decide +kernel)) (fun _ _ _ _ _ => pg_name (i := 1) nd rfl (Or.inl rfl)) (fun _ _ _ _ _ => pts_nil)
      (fun _ _ _ _ _ => pe_op op_add (pe_op op_fdiv (pv 1) pe_int) (pe_op op_mul (pe_op op_mod (pv 1) pe_int) (pe_op op_fdiv (pv 0) pe_int)))))), ?_⟩
    refine ⟨_, rfl, _, rfl, by omega, by omega, fun D nD => ?_⟩
    refine lc_it walk_range (LcP H D fun i => (List.range i).map fun p => nv (p / 2 + p % 2 * (n / 2))) (lc_start nD rfl) (fun _ _ _ _ => trivial) (fun i x H1 H2 hi p y => ?_) (fun H1 p => ?_)
    · obtain ⟨rfl, rfl⟩ := y
      refine ⟨rfl, tyes ?_⟩
      refine ⟨_, rfl, _, _, rfl, rfl, ⟨by decide, by decide⟩, _, rfl, _, _, rfl, rfl, (by show (0 : Int) < 2; decide), _, rfl, _, _, rfl, rfl, ⟨by decide, by decide⟩, _, _, rfl, rfl, .inl ⟨by omega, by omega⟩, _, _, rfl, rfl, ?_⟩
      refine lc_put nD p (Same.refl _) ?_ (by simp; omega)
      rw [rmap_succ]
      congr 2
      show V.int _ = V.int _
      congr 1
      rw [Int.zero_add]
      push_cast
      rfl
    · refine .inl ⟨D, _, rfl, SqL.of p.2, fun q nq => ?_⟩
      refine k q _ (p.1.trans (same_upd nq)) (p.1.free nq) ?_
      rw [upd_same]
      unfold outL
      rw [List.map_map]
      have e : ((n : Int)).toNat = n := by omega
      rw [e]
      rfl
end
end Ck
/-! ## text K61R2 -/
set_option Elab.async false
set_option linter.all false
set_option maxRecDepth 100000
set_option maxHeartbeats 4000000
namespace Ck
open PySem PySem.Spec PyProof.Rows L2
/-! ### any(..) drains a generator that hands out False alone -/
/-- each item is False; the consumer touches no object between two of them -/
def YF (J : Shared → Prop) : Protocol := fun _ _ v s kap => v = .bool false ∧ J s ∧ ∀ s2 : Shared, s2.heap = s.heap → s2.os = s.os → AllBare s2.gens → kap (.send .none) s2
abbrev RF (Pe : Shared → Prop) : GenEnd := fun _ _ r s1 => r = .ok .next ∧ Pe s1
theorem bare_set {s : Shared} {g : Nat} {x : GenState} (h : AllBare s.gens) (hx : x.bare = true) : AllBare (s.setGen g x).gens := fun y hy => by
  have hy : y ∈ s.gens.setIfInBounds g x := hy
  rcases Array.mem_or_eq_of_mem_setIfInBounds hy with z | z
  · exact h y z
  · rw [z]; exact hx
theorem any_drain {prog : Program} {w : World} {A : Around} {a : Addr} {g : Nat} {J Pe : Shared → Prop} {R : Result → Shared → Prop} (hh : A.handled = none) (hroom : A.depth < recursionLimit)
    (hJ : ∀ s, J s → s.heap.IsGen a g ∧ s.heap.NoLimit ∧ AllBare s.gens)
    (hend : ∀ (s1 : Shared) (h' : Heap), Pe s1 → (∀ b o, s1.heap.get? b = some o → h'.get? b = some o) → R (.ok (.ret (.bool false))) { s1.setGen g .finished with heap := h' }) :
    ∀ (n : Nat) (gs : GenState) (s : Shared), s.gens[g]? = some gs → s.heap.IsGen a g → s.heap.NoLimit →
      gs.Goes (model prog w) A.in1.in1 (RF Pe) (YF J) n (.send .none) (s.setGen g .running) → codeAny (model prog w) A (.builtin "any.loop" ⟨[.ref a], []⟩) R s := by
  intro n
  induction n with
  | zero =>
    intro gs s hgs hg hl hgo
    refine codeAny_builtin F.entry_any_loop ?_
    rw [Around.under_plainId F.plain_any_loop _]
    show wpAny _ A.in1 (pyNext (.ref a) >>= _) _ _ s
    refine wpAny_bind (wpAny_pyNext_genexpQ (A := A.in1) (P := fun _ _ s1 => Pe s1) hh hl hroom hg hgs hgo (fun v s1 gs' hb hv => ?_) fun s1 hp h' hk => ?_)
    · obtain ⟨_, hj, hk⟩ := hv
      exact (hk s1 rfl rfl (hJ s1 hj).2.2).elim
    · refine wpAny_bind (wpAny_rule (wpAny_pure ?_))
      exact hend s1 h' hp hk
  | succ n ih =>
    intro gs s hgs hg hl hgo
    have hgl : g + 1 ≤ s.gens.size := (Array.getElem?_eq_some_iff.mp hgs).1
    refine codeAny_builtin F.entry_any_loop ?_
    rw [Around.under_plainId F.plain_any_loop _]
    show wpAny _ A.in1 (pyNext (.ref a) >>= _) _ _ s
    refine wpAny_bind (GenW.wpAny_gsz hgl (wpAny_pyNext_genexpQ (A := A.in1) (P := fun _ _ s1 => Pe s1) hh hl hroom hg hgs hgo (fun v s1 gs' hb hv => ?_) fun s1 hp h' hk => ?_))
    · intro hsz
      obtain ⟨rfl, hj, hk⟩ := hv
      obtain ⟨g1, l1, b1⟩ := hJ s1 hj
      have hsz1 : g < s1.gens.size := by
        have z : (s1.setGen g gs').gens.size = s1.gens.size := Array.size_setIfInBounds
        omega
      refine wpAny_bind (wpAny_holding (wpAny_truthy_bool ?_))
      refine wpAny_bind (wpAny_letGo ?_)
      refine wpAny_pure ⟨plainId_quiet F.plain_any_loop _, ?_⟩
      refine ih gs' (s1.setGen g gs') ?_ g1 l1 (hk _ rfl rfl (bare_set (bare_set b1 hb) rfl))
      show (s1.gens.setIfInBounds g gs')[g]? = some gs'
      rw [Array.getElem?_setIfInBounds_self]
      exact if_pos hsz1
    · intro _
      refine wpAny_bind (wpAny_rule (wpAny_pure ?_))
      exact hend s1 h' hp hk

/-! ### the context of a generator expression's own frame -/
abbrev gx (X : Cx) (s4 : Shared) (H : Hp) (ce : Env) (fp : List Addr) (B : Around) (pn : List (Addr × Obj)) : Cx :=
  { X with A := B, s_0 := s4, H_0 := H, env := ce, outer := X.stack, stack := ce :: X.stack, ex := fp, calm := true, fn := fun _ => false, pn := pn, xe := fun _ _ => False }
abbrev gce (X : Cx) (s4 : Shared) (scope : Scope) (code : Value) : Env := genEnv scope (cloFrom X.env.cells scope.names []) s4.heap.objs.size code builtinsNs X.env
theorem gen_start {X : Cx} {pins : List (Addr × Obj)} {σ : L2.St} {H : Hp} {s4 s5 : Shared} {scope : Scope} {code : Value} {own : List (Str × Nat)} {fp : List Addr} {B : Around} {a : Addr} {oa : Obj}
    (I : Inv X pins σ H s4) (ok : BlkOk X.N X.env.scope scope own) (hN : X.N.Nodup) (nocell : ∀ y ∈ scope.names, y.2 ≠ .cell) (hfp : ∀ b ∈ fp, FpOk X pins H b ∧ b < s4.heap.objs.size)
    (hB : B.handled = none) (hfr : B.frames = some (gce X s4 scope code :: X.stack)) (kp : ∀ b o, s4.heap.get? b = some o → s5.heap.get? b = some o) (hos : s5.os = s4.os) (hb : AllBare s5.gens)
    (hns : ∃ m, s5.heap.Ns s4.heap.objs.size m) (ha : s5.heap.get? a = some oa) (hlt : s4.heap.objs.size < a) (hcell : ∀ v, oa.data ≠ .cell v) :
    Inv (gx X s4 H (gce X s4 scope code) fp B [(a, oa)]) [] (wipe σ (own.map (·.2))) H s5 := by
  have free_ : ∀ y ∈ scope.names, y.2 = .free → ∃ c, X.env.cells.lookup y.1 = some c := fun y hy e => (ok.free y hy e).elim (fun k => I.ok.has _ (.inl k)) fun k => I.ok.has _ (.inr k)
  have incl : ∀ {y c}, (cloFrom X.env.cells scope.names []).lookup y = some c → (y, NameKind.free) ∈ scope.names ∧ X.env.cells.lookup y = some c ∧ c < s4.heap.objs.size := fun {y c} e => by
    rcases cloFrom_mem (PySem.mem_of_lookup e) with z | ⟨z, ec⟩
    · cases z
    · obtain ⟨c2, h2⟩ := free_ _ z rfl
      rw [h2] at ec
      obtain rfl : c = c2 := ec
      obtain ⟨v, q⟩ := I.cell _ _ h2
      exact ⟨z, h2, q.lt⟩
  have found : ∀ {y}, (y, NameKind.free) ∈ scope.names → ∃ c, (cloFrom X.env.cells scope.names []).lookup y = some c ∧ X.env.cells.lookup y = some c := fun {y} z => by
    obtain ⟨c, e⟩ := mem_lookup (cloFrom_has (cells := X.env.cells) (acc := []) z)
    exact ⟨c, e, (incl e).2.1⟩
  have below : ∀ b, b ∈ frs X.stack → b < s4.heap.objs.size := fun b z => by
    obtain ⟨_, o, ho, _⟩ := I.stack.mem z
    exact Heap.lt_size ho
  have okG : (gx X s4 H (gce X s4 scope code) fp B [(a, oa)]).Ok := by
    refine ⟨I.ok.mod, ok.kind, I.ok.glob, rfl, Nat.le_refl _, fun y z c e1 e2 => I.ok.inj y z c (incl e1).2.1 (incl e2).2.1, fun y hy => ?_, fun y c z _ => absurd z (by simp), fun _ => hB, hfr, .inr ⟨rfl, rfl⟩, fun b hb => ⟨?_, fun y c e z => ?_⟩, I.bs,
      Nat.le_trans I.ok.bsz I.sz, fun b o e hb => ?_, fun b hb z => ?_, I.stack, I.stkFree⟩
    · rcases hy with hy | hy
      · exact absurd rfl (nocell _ (PySem.mem_of_lookup hy))
      · obtain ⟨c, h1, _⟩ := found (PySem.mem_of_lookup hy)
        exact ⟨c, h1⟩
    · exact Nat.ne_of_lt (hfp b hb).2
    · exact (hfp b hb).1.2.2.2.2.1 y c (incl e).2.1 z
    · rcases (hfp b hb).1.2.2.2.1 with z | z
      · exact I.ok.noex b o e z
      · exact Nat.lt_irrefl _ (Nat.lt_of_lt_of_le (Heap.lt_size e) (Nat.le_trans I.ok.bsz z))
    · rcases List.mem_cons.mp (I.stkSub b z) with z | z
      · exact (hfp b hb).1.2.1 z
      · exact (hfp b hb).1.2.2.1 z
  obtain ⟨m, hm⟩ := hns
  refine ⟨okG, hos, hb, Un.kept kp, ⟨m, hm, fun i y v e1 e2 e3 => ?_⟩, fun y c e => ?_, I.hok.fresh (Nat.le_refl _), fun y c e => ?_, fun p hp => ?_, I.hok.kept kp, by rw [wipe_length]; exact I.len⟩
  · obtain ⟨e2, hne⟩ := wipe_some e2
    have e3 : Vis scope y := e3
    have key : (y, NameKind.free) ∈ scope.names := by
      rcases e3 with k | k | k
      · rcases ok.own _ (PySem.mem_of_lookup k) (.inl rfl) with z | z
        · obtain ⟨p, hp, py⟩ := List.mem_map.mp z
          have e4 := ok.ix p hp
          rw [show p.1 = y from py] at e4
          exact absurd (List.mem_map.mpr ⟨p, hp, nodup_ix hN e4 e1⟩) hne
        · exact absurd (List.mem_of_getElem? e1) z
      · exact absurd rfl (nocell _ (PySem.mem_of_lookup k))
      · exact PySem.mem_of_lookup k
    obtain ⟨m0, hn0, hl⟩ := I.loc
    have hvis : Vis X.env.scope y := (ok.free _ key rfl).elim (fun k => .inr (.inl k)) fun k => .inr (.inr k)
    obtain ⟨u, r, q⟩ := hl i y v e1 e2 hvis
    obtain ⟨c, h1, h2⟩ := found key
    refine ⟨u, r, .inr ⟨.inr ?_, c, h1, ?_⟩⟩
    · show scope.names.lookup y = some .free
      exact ok.uniq _ key
    · rcases q with ⟨k, _⟩ | ⟨_, c2, e2, z⟩
      · have k : X.env.scope.names.lookup y = some .local := k
        rcases ok.free _ key rfl with k2 | k2
        · rw [show X.env.scope.names.lookup y = some .cell from k2] at k; cases k
        · rw [show X.env.scope.names.lookup y = some .free from k2] at k; cases k
      · rw [h2] at e2
        cases e2
        exact z.keeps kp
  · obtain ⟨v, z⟩ := I.cell y c (incl e).2.1
    exact ⟨v, z.keeps kp⟩
  · exact I.freeC y c (incl e).2.1
  · have ep : p = (a, oa) := by
      have hp : p ∈ [(a, oa)] ++ [] := hp
      simpa using hp
    subst ep
    exact ⟨ha, I.hok.fresh (Nat.le_of_lt hlt), Nat.ne_of_gt hlt, fun z => Nat.lt_asymm hlt (below a z), hcell⟩
end Ck
/-! ## text K61R3 -/
set_option Elab.async false
set_option linter.all false
set_option maxRecDepth 100000
set_option maxHeartbeats 4000000
namespace Ck
open PySem PySem.Spec PyProof.Rows L2
/-- the generator's state between two items: some Inv of its frame -/
def Jz (G : Cx) (s : Shared) : Prop := ∃ pins σ H, Inv G pins σ H s
def Pz (G : Cx) (σw : L2.St) (Qf : Hp → Prop) (s : Shared) : Prop := ∃ H, Inv G [] σw H s ∧ Qf H
/-- the inv is not about gens, toks, os apart -/
theorem inv_like {G : Cx} {pins : List (Addr × Obj)} {σ : L2.St} {H : Hp} {s s2 : Shared} (I : Inv G pins σ H s) (e : s2.heap = s.heap) (eo : s2.os = s.os) (hb : AllBare s2.gens) : Inv G pins σ H s2 := by
  obtain ⟨h, g, d, t, o⟩ := s2
  obtain rfl : h = s.heap := e
  exact ⟨I.ok, eo.trans I.os, hb, I.base, I.loc, I.cell, I.free, I.freeC, I.pin, I.hok, I.len⟩
/-- a turn of the loop in its reading: the target takes the item, the element is False -/
def tTurnF (J : It) (g : TG) (te : TE) (vs : List Nat) (σw : L2.St) (W : Nat → Nat → Hp → Prop) (Qf : Hp → Prop) : Prop := ∀ i m H, W i m H →
  (J.stop i H ∧ Qf H) ∨ (J.go i H ∧ ∃ Nx : Hp → Prop, (∀ H', Nx H' → ∃ m', m' < m ∧ W (i + 1) m' H') ∧ ∀ x H', J.yld i H x H' → g x σw H' fun σ2 H2 => wipe σ2 vs = σw ∧ te σ2 H2 fun v H3 => v = .bl false ∧ Nx H3)
section
variable {A : Around} {G : Cx} {elt tg iter : Expr} {scope : Scope} {pos : Pos} {it : Addr} {fp : List Addr} {tn : Nat → Heap → Prop} {J : It} {g : TG} {te : TE} {vs : List Nat} {σw : L2.St} {W : Nat → Nat → Hp → Prop} {Qf : Hp → Prop}
theorem fp_ok {pins : List (Addr × Obj)} {σ : L2.St} {H : Hp} {s : Shared} (hex : G.ex = fp) (hpn : ∀ p ∈ G.pn, p.1 ∉ fp) (I : Inv G [] σ H s) (n : ∀ b ∈ fp, H b = none) : ∀ b ∈ fp, FpOk G [] H b := fun b hb =>
  ⟨n b hb, (I.ok.exf b (hex ▸ hb)).1, I.ok.exfs b (hex ▸ hb), .inl (hex ▸ hb), fun x c e => (I.ok.exf b (hex ▸ hb)).2 x c e, fun p hp z => by
    have hp : p ∈ G.pn ++ [] := hp
    rw [List.append_nil] at hp
    exact hpn p hp (z ▸ hb)⟩
theorem seg_any1 (hov : A.over (.compLoop (.GeneratorExp elt [⟨tg, iter, [], 0⟩] scope pos) 0 (.ref it) .none G.env) [] = G.A) (hc : G.calm = true) (hxe : G.xe = fun _ _ => False) (hex : G.ex = fp) (hpn : ∀ p ∈ G.pn, p.1 ∉ fp)
    (T : Turn G.prog G.w G.K tg J fp it tn) (pg : PG G tg g) (pe : PE G elt te) (hco : G.env.scope.isCoroutine = false) (turn : tTurnF J g te vs σw W Qf) :
    ∀ (n i m : Nat) (s₀ s : Shared) (H : Hp), m ≤ n → Inv G [] σw H s → tn i s.heap → (∀ b ∈ fp, H b = none) → W i m H →
      Seg (model G.prog G.w) A (RF (Pz G σw Qf)) (YF (Jz G)) n s₀ (.compLoop (.GeneratorExp elt [⟨tg, iter, [], 0⟩] scope pos) 0 (.ref it) .none G.env)
        ((model G.prog G.w).den (.compLoop (.GeneratorExp elt [⟨tg, iter, [], 0⟩] scope pos) 0 (.ref it) .none G.env)) [] s := by
  intro n
  induction n with
  | zero =>
    intro i m s₀ s H hmn I st nf w
    show Seg _ A _ _ _ s₀ _ ((compTurn (.GeneratorExp elt [⟨tg, iter, [], 0⟩] scope pos) 0 (.ref it) .none G.env).onRaise (leaving G.env)) [] s
    rw [compTurn_gen, Sem.onRaise_eq_wrap]
    refine seg_bind_wrap (wpAny_standAt ?_)
    rcases turn i m H w with ⟨stop, q⟩ | ⟨go, Nx, hN, step⟩
    · refine seg_bind_wrap ?_
      rw [hov]
      refine thn (T.done G rfl rfl rfl hc i [] s σw H _ I (fp_ok (pins := []) hex hpn I nf) st stop) fun r s2 ⟨er, I2⟩ => ?_
      subst er
      exact seg_end (.ok .next) ⟨rfl, H, I2, q⟩
    · -- a turn must bring the measure below m = 0
      obtain rfl : m = 0 := Nat.le_zero.mp hmn
      refine seg_bind_wrap ?_
      rw [hov]
      refine thn (T.item G rfl rfl rfl hc i [] s σw H _ I (fp_ok (pins := []) hex hpn I nf) st go) fun r s2 ⟨u, er, h2⟩ => ?_
      subst er
      refine seg_bind_wrap ?_
      rw [hov]
      refine thn h2 fun _ s3 ⟨x, H3, I3, r3, y3, st3, n3⟩ => ?_
      refine seg_bind_wrap ?_
      rw [hov]
      have q3 := pg.run [] s3 σw H3 x u _ I3 r3 (step x H3 y3)
      rw [hxe] at q3
      refine wpAny_mono q3 (fun _ s4 ⟨σ4, H4, I4, e4, q4⟩ => ?_) fun _ _ z => False.elim z
      refine seg_bind_wrap (wpAny_mono (wpAny_tests_nil (Q := fun b s' => b = true ∧ s' = s4) ⟨rfl, rfl⟩) (fun b s5 ⟨eb, es⟩ => ?_) fun _ _ z => z)
      subst eb es
      simp only [if_true]
      rw [Sem.bind_eq_wrap', Sem.bind_eq_wrap', Sem.wrap_wrap, Sem.wrap_wrap]
      refine seg_wrap ?_
      rw [hov]
      have q5 := pe.run [] _ σ4 H4 _ I4 q4
      rw [hxe] at q5
      refine wpAny_mono q5 (fun y s6 ⟨v, H6, I6, r6, ev, nx⟩ => ?_) fun _ _ z => False.elim z
      obtain ⟨m2, hm, _⟩ := hN H6 nx
      exact absurd hm (Nat.not_lt_zero _)
  | succ n ih =>
    intro i m s₀ s H hmn I st nf w
    show Seg _ A _ _ _ s₀ _ ((compTurn (.GeneratorExp elt [⟨tg, iter, [], 0⟩] scope pos) 0 (.ref it) .none G.env).onRaise (leaving G.env)) [] s
    rw [compTurn_gen, Sem.onRaise_eq_wrap]
    refine seg_bind_wrap (wpAny_standAt ?_)
    rcases turn i m H w with ⟨stop, q⟩ | ⟨go, Nx, hN, step⟩
    · refine seg_bind_wrap ?_
      rw [hov]
      refine thn (T.done G rfl rfl rfl hc i [] s σw H _ I (fp_ok (pins := []) hex hpn I nf) st stop) fun r s2 ⟨er, I2⟩ => ?_
      subst er
      exact seg_end (.ok .next) ⟨rfl, H, I2, q⟩
    · refine seg_bind_wrap ?_
      rw [hov]
      refine thn (T.item G rfl rfl rfl hc i [] s σw H _ I (fp_ok (pins := []) hex hpn I nf) st go) fun r s2 ⟨u, er, h2⟩ => ?_
      subst er
      refine seg_bind_wrap ?_
      rw [hov]
      refine thn h2 fun _ s3 ⟨x, H3, I3, r3, y3, st3, n3⟩ => ?_
      have I3' := I3.pinned (fp_ok (pins := []) hex hpn I3 n3) (T.obj _ _ st3)
      refine seg_bind_wrap ?_
      rw [hov]
      have q3 := pg.run _ s3 σw H3 x u _ I3' r3 (step x H3 y3)
      rw [hxe] at q3
      refine wpAny_mono q3 (fun _ s4 ⟨σ4, H4, I4, e4, q4⟩ => ?_) fun _ _ z => False.elim z
      refine seg_bind_wrap (wpAny_mono (wpAny_tests_nil (Q := fun b s' => b = true ∧ s' = s4) ⟨rfl, rfl⟩) (fun b s5 ⟨eb, es⟩ => ?_) fun _ _ z => z)
      subst eb es
      simp only [if_true]
      have hy : ∀ v, yieldOut G.env v = yieldValue v := fun v => by simp only [yieldOut, hco, Bool.false_eq_true, if_false]
      simp only [hy]
      rw [Sem.bind_eq_wrap', Sem.bind_eq_wrap', Sem.wrap_wrap, Sem.wrap_wrap]
      refine seg_wrap ?_
      rw [hov]
      have q5 := pe.run _ _ σ4 H4 _ I4 q4
      rw [hxe] at q5
      refine wpAny_mono q5 (fun y s6 ⟨v, H6, I6, r6, ev, nx⟩ => ?_) fun _ _ z => False.elim z
      subst ev
      obtain rfl : y = .bool false := r6
      obtain ⟨m2, hm, w2⟩ := hN H6 nx
      refine seg_at (seg_yield rfl rfl rfl ⟨rfl, ⟨_, _, _, I6⟩, fun s7 e7 o7 b7 => ?_⟩)
      have I7 := inv_like I6 e7 o7 b7
      have pin7 : ∀ b ∈ fp, ∀ o, s3.heap.get? b = some o → s7.heap.get? b = some o ∧ H6 b = none := fun b hb o e =>
        let z := I7.pin (b, o) (List.mem_append_right _ (List.mem_append_right _ (mem_pinsAt hb e)))
        ⟨z.1, z.2.1⟩
      refine seg_again rfl (ih (i + 1) m2 s7 s7 H6 (by omega) ((I7.unpinned (pins := [])).weak ?_ fun j v e => ?_) (T.keep _ _ _ st3 fun b hb o e => (pin7 b hb o e).1) (fun b hb => ?_) w2)
      · rw [← e4, wipe_length]
      · rw [← e4] at e
        exact (wipe_some e).1
      · obtain ⟨o, e, _⟩ := T.obj _ _ st3 b hb
        exact (pin7 b hb o e).2
end
end Ck
/-! ## text K61R4 -/
set_option Elab.async false
set_option linter.all false
set_option maxRecDepth 100000
set_option maxHeartbeats 4000000
namespace Ck
open PySem PySem.Spec PyProof.Rows L2
/-! ### the table of a def's code objects, as it may grow -/
def tabO (P : Addr) : HO := .ext fun h => ∃ ps : Array Value, h.get? P = some { cls := .none, data := .fields ps } ∧ TriplesOk ps.toList
theorem inv_tabO {X : Cx} {pins : List (Addr × Obj)} {σ : L2.St} {H : Hp} {s : Shared} {P : Addr} {h' : Heap} {t' : Nat} {ps : Array Value} (I : Inv X pins σ H s) (hP : H P = some (tabO P)) (k : ∀ b o, b ≠ P → s.heap.get? b = some o → h'.get? b = some o)
    (hm : h'.get? P = some { cls := .none, data := .fields ps }) (ht : TriplesOk ps.toList) : Inv X pins σ H { s with heap := h', toks := t' } := by
  have e : upd H P (tabO P) = H := by
    funext b
    by_cases hb : b = P
    · rw [hb, upd_same, hP]
    · rw [upd_ne hb]
  have new : ObjOk X.prog X.w (upd H P (tabO P)) h' P (tabO P) :=
    ⟨⟨ps, hm, ht⟩, ⟨_, hm⟩, fun h1 h2 ⟨qs, e1, e2⟩ st => ⟨qs, st _ e1, e2⟩⟩
  have J := I.write (x := P) (e := P) (o := tabO P) (t' := t') (by rw [hP]; trivial) (.inl rfl) k ⟨_, hm⟩ new
  rw [e] at J
  exact J
theorem wipe_at (σ : L2.St) : ∀ (vs : List Nat) (i : Nat), (wipe σ vs)[i]? = if i ∈ vs then (σ[i]?).map fun _ => none else σ[i]?
  | [], i => by simp [wipe]
  | v :: vs, i => by
    unfold wipe
    by_cases h : v = i
    · subst h
      rw [List.getElem?_set, if_pos rfl, if_pos (List.mem_cons_self), wipe_length]
      by_cases hv : v < σ.length
      · rw [if_pos hv, List.getElem?_eq_getElem hv]; rfl
      · rw [if_neg hv, List.getElem?_eq_none (by omega)]; rfl
    · rw [List.getElem?_set_ne h, wipe_at σ vs i]
      by_cases hi : i ∈ vs
      · rw [if_pos hi, if_pos (List.mem_cons_of_mem _ hi)]
      · rw [if_neg hi, if_neg fun z => (List.mem_cons.mp z).elim (fun z => h z.symm) hi]
theorem wipe_wipe (σ : L2.St) (vs : List Nat) : wipe (wipe σ vs) vs = wipe σ vs := by
  refine List.ext_getElem? fun i => ?_
  rw [wipe_at (wipe σ vs) vs i]
  by_cases h : i ∈ vs
  · rw [if_pos h, wipe_at σ vs i, if_pos h]
    cases σ[i]? <;> rfl
  · rw [if_neg h]
/-! ### a generator expression is made -/
theorem eval_gen (elt tg iter : Expr) (ifs : List Expr) (more : List Comprehension) (scope : Scope) (pos : Pos) (env : Env) (hco : scope.isCoroutine = false) :
    eval (.GeneratorExp elt (⟨tg, iter, ifs, 0⟩ :: more) scope pos) env = (do
      let x1 ← eval iter env
      standAt iter.pos
      let x2 ← genFold iter env x1
      let i1 ← holding [x2] (pyIter x2)
      enterFrame
      let c1 ← closureFor scope env
      let k1 ← genexprCode env pos (env.qual ++ "<genexpr>") scope
      let b1 ← builtinsFor env.globals env.builtins
      let e1 ← newFunctionEnv scope env.globals c1 [(".0", i1)] (env.qual ++ "<genexpr>.") none k1 none b1
      newGenerator (.compStart (.GeneratorExp elt (⟨tg, iter, ifs, 0⟩ :: more) scope pos) 0 i1 .none e1) "<genexpr>" (env.qual ++ "<genexpr>")) := by
  rw [arm_eval_GeneratorExp]
  simp only [hco, Bool.false_eq_true, if_false]
  cases iter <;> rfl
theorem gen_make {M : Model} {A : Around} {E : Value → Shared → Prop} {s : Shared} {env : Env} {elt tg iter : Expr} {ifs : List Expr} {more : List Comprehension} {scope : Scope} {cl : List (Str × Addr)} {pos : Pos} {Q : Value → Shared → Prop}
    (hco : scope.isCoroutine = false) (hcl : closureFor scope env = pure cl) (hcell : ∀ y ∈ scope.names, y.2 ≠ .cell) (h0 : scope.names.lookup (".0" : Str) = some NameKind.local) (hk : scope.kind = .function)
    (hd : A.depth < recursionLimit) (hs : ∀ x, genFold iter env x = pure x)
    (h : wpAny M A (eval iter env) (fun v s1 => wpAny M A (pyIter v) (fun iv s2 => s2.heap.NoLimit ∧
      wpAny M A (genexprCode env pos (env.qual ++ "<genexpr>") scope) (fun code s3 => wpAny M A (builtinsFor env.globals env.builtins) (fun bi s4 =>
        ∀ h5 : Heap, (∃ m, h5.Ns s4.heap.objs.size m) → (∀ b o, s4.heap.get? b = some o → h5.get? b = some o) → s4.heap.objs.size < h5.objs.size →
          ∀ (nm qn : Value), Q (.ref h5.objs.size) { s4 with
            gens := s4.gens.push (.fresh (.compStart (.GeneratorExp elt (⟨tg, iter, ifs, 0⟩ :: more) scope pos) 0 iv .none (genEnv scope cl s4.heap.objs.size code bi env))),
            toks := s4.toks + 1 + 1 + 1,
            heap := h5.push { cls := .type "generator", data := .fields #[.int s4.gens.size 0, nm, qn] } }) E s3) E s2) E s1) E s) :
    wpAny M A (eval (.GeneratorExp elt (⟨tg, iter, ifs, 0⟩ :: more) scope pos) env) Q E s := by
  rw [eval_gen _ _ _ _ _ _ _ _ hco, hcl]
  refine wpAny_bind (thn h fun v s1 z1 => ?_)
  refine wpAny_bind (wpAny_standAt ?_)
  refine wpAny_bind (wpAny_of_eq (hs v) ?_)
  refine wpAny_bind (wpAny_holding (thn z1 fun iv s2 z2 => ?_))
  refine wpAny_bind (wpAny_enterFrame z2.1 hd ?_)
  refine wpAny_bind (wpAny_pure ?_)
  refine wpAny_bind (thn z2.2 fun code s3 z3 => ?_)
  refine wpAny_bind (thn z3 fun bi s4 z4 => ?_)
  have hb : ∀ y ∈ ([((".0" : Str), iv)] : List (Str × Value)), scope.names.lookup y.1 = some NameKind.local := fun y hy => by
    obtain rfl := List.mem_singleton.mp hy
    exact h0
  refine wpAny_bind (wpAny_newFunctionEnv hcell hb (fun h' hn sb => ?_) hk)
  simp only [newGenerator, newFields]
  refine wpAny_bind (wpAny_newGen (wpAny_bind (wpAny_mkText (wpAny_bind (wpAny_mkText (wpAny_newObj_type ?_ (by size_fits)))))))
  refine z4 h' ⟨_, hn⟩ (fun b o e => sb.extBut b o (Nat.ne_of_lt (Heap.lt_size e)) (Heap.get?_push_of_some _ e)) ?_ _ _
  rw [sb.1, Heap.size_push]
  exact Nat.lt_succ_self _
end Ck
/-! ## text K61R5 -/
set_option Elab.async false
set_option linter.all false
set_option maxRecDepth 100000
set_option maxHeartbeats 4000000
namespace Ck
open PySem PySem.Spec PyProof.Rows L2
/-- any(generator expression): what its first walk asks, then the loop's reading L; P: where the def's table of code objects stands -/
def tAnyL (P : Addr) (wi : TI) (L : It → L2.St → (Nat → Nat → Hp → Prop) → (Hp → Prop) → Prop) (vs : List Nat) : TE := fun σ H Q => wi σ H fun J H1 => H1 P = some (tabO P) ∧
  ∃ W : Nat → Nat → Hp → Prop, (∃ m, W 0 m H1) ∧ L J (wipe σ vs) W fun H2 => Q (.bl false) H2
/-- the loop's code keeps L -/
def SegL (X : Cx) (scope : Scope) (elt tg iter : Expr) (more : List Comprehension) (gpos : Pos) (k : Nat) (L : It → L2.St → (Nat → Nat → Hp → Prop) → (Hp → Prop) → Prop) : Prop :=
  ∀ (s4 : Shared) (H4 : Hp) (code : Value) (fp : List Addr) (B : Around) (pn : List (Addr × Obj)) (J : It) (it : Addr) (tn : Nat → Heap → Prop) (σw : L2.St) (W : Nat → Nat → Hp → Prop) (Qf : Hp → Prop) (m : Nat) (s₀ s : Shared),
    Room k B → X.A.in1.in1.over (.compLoop (.GeneratorExp elt (⟨tg, iter, [], 0⟩ :: more) scope gpos) 0 (.ref it) .none (gce X s4 scope code)) [] = B → (∀ p ∈ pn, p.1 ∉ fp) → Turn X.prog X.w X.K tg J fp it tn →
    Inv (gx X s4 H4 (gce X s4 scope code) fp B pn) [] σw H4 s → tn 0 s.heap → (∀ b ∈ fp, H4 b = none) → W 0 m H4 → L J σw W Qf →
    Seg (model X.prog X.w) X.A.in1.in1 (RF (Pz (gx X s4 H4 (gce X s4 scope code) fp B pn) σw Qf)) (YF (Jz (gx X s4 H4 (gce X s4 scope code) fp B pn))) m s₀
      (.compLoop (.GeneratorExp elt (⟨tg, iter, [], 0⟩ :: more) scope gpos) 0 (.ref it) .none (gce X s4 scope code))
      ((model X.prog X.w).den (.compLoop (.GeneratorExp elt (⟨tg, iter, [], 0⟩ :: more) scope gpos) 0 (.ref it) .none (gce X s4 scope code))) [] s
theorem seg_start {X : Cx} {A : Around} {G : Cx} {elt tg iter : Expr} {more : List Comprehension} {scope : Scope} {gpos : Pos} {it : Addr} {fp : List Addr} {tn : Nat → Heap → Prop} {J : It} {R : GenEnd} {Y : Protocol} {n : Nat} {s₀ s : Shared} {ce : Env}
    (T : Turn X.prog X.w X.K tg J fp it tn) (st : tn 0 s.heap)
    (h : Seg (model X.prog X.w) A R Y n s₀ (.compLoop (.GeneratorExp elt (⟨tg, iter, [], 0⟩ :: more) scope gpos) 0 (.ref it) .none ce) ((model X.prog X.w).den (.compLoop (.GeneratorExp elt (⟨tg, iter, [], 0⟩ :: more) scope gpos) 0 (.ref it) .none ce)) [] s) :
    Seg (model X.prog X.w) A R Y n s₀ (.compStart (.GeneratorExp elt (⟨tg, iter, [], 0⟩ :: more) scope gpos) 0 (.ref it) .none ce) ((model X.prog X.w).den (.compStart (.GeneratorExp elt (⟨tg, iter, [], 0⟩ :: more) scope gpos) 0 (.ref it) .none ce)) [] s := by
  show Seg _ A _ _ _ s₀ _ ((compStart (.GeneratorExp elt (⟨tg, iter, [], 0⟩ :: more) scope gpos) 0 (.ref it) .none ce).onRaise (leaving ce)) [] s
  unfold compStart
  rw [Sem.onRaise_eq_wrap]
  show Seg _ A _ _ _ s₀ _ ((ask >>= _).wrap _ _ _ _) [] s
  refine seg_bind_wrap (wpAny_askSetting ?_)
  split
  · exact seg_again rfl h
  · refine seg_bind_wrap (wpAny_rule ?_)
    show Seg _ A _ _ _ s₀ _ ((standAt iter.pos >>= _).wrap _ _ _ _) [] s
    exact seg_bind_wrap (wpAny_standAt (seg_bind_wrap (T.self _ 0 s _ _ st (seg_again rfl h))))
theorem over_gen {X : Cx} {e : Expr} {it : Value} {ce : Env} {k : Nat} {elt : Expr} {gens : List Comprehension} {scope : Scope} {gpos : Pos} (he : e = .GeneratorExp elt gens scope gpos) (hr : Room (k + 1) X.A) (hf : X.A.frames = some X.stack) :
    Room k (X.A.in1.in1.over (.compLoop e 0 it .none ce) []) ∧ (X.A.in1.in1.over (.compLoop e 0 it .none ce) []).frames = some (ce :: X.stack) := by
  subst he
  refine ⟨⟨hr.hd, ?_, ?_⟩, ?_⟩
  · have := hr.dp
    show X.A.depth + 0 + 1 + 3 * k + 5 < _
    omega
  · have := hr.un
    show X.A.units + 1 + 1 + 0 + 3 + 16 * k + 200 < _
    omega
  · show pushEnvs [ce] (pushEnvs [] X.A.frames) = _
    rw [hf]
    rfl
theorem pe_any {X : Cx} {c P : Addr} {elt tg iter : Expr} {more : List Comprehension} {scope : Scope} {gpos p pos : Pos} {own : List (Str × Nat)} {k : Nat} {wi : TI} {L : It → L2.St → (Nat → Nat → Hp → Prop) → (Hp → Prop) → Prop}
    (hr : Room (k + 1) X.A) (hg : Gl X "any") (hm : X.mg "any" = none) (TB : LamX.TabB X.base X.mg c P) (hcode : X.env.code = .ref c) (hcalm : X.calm = true) (hN : X.N.Nodup) (ok : BlkOk X.N X.env.scope scope own) (nocell : ∀ y ∈ scope.names, y.2 ≠ .cell)
    (h0 : scope.names.lookup (".0" : Str) = some NameKind.local) (hco : scope.isCoroutine = false) (hi : PI X tg iter wi) (hs : ∀ v, genFold iter X.env v = pure v) (hL : SegL X scope elt tg iter more gpos k L)
    (he : starEach [.GeneratorExp elt (⟨tg, iter, [], 0⟩ :: more) scope gpos] X.env = (false, eval (.GeneratorExp elt (⟨tg, iter, [], 0⟩ :: more) scope gpos) X.env) :: starEach [] X.env := by rfl) :
    PE X (.Call (.Name "any" p) [.GeneratorExp elt (⟨tg, iter, [], 0⟩ :: more) scope gpos] [] pos) (tAnyL P wi L (own.map (·.2))) := by
  refine ⟨fun pins s σ H Q I h => ?_⟩
  refine wpAny_Call_Name_kw (ld_blt I hg hm boot_any ?_)
  refine PyProof.Rows.callWith_builtin1 ?_ he (by rfl)
  rw [he]
  show wpAny _ _ (spliced ((false, eval (.GeneratorExp elt (⟨tg, iter, [], 0⟩ :: more) scope gpos) X.env) :: backTo pos (starEach [] X.env))) _ _ s
  have free_ : ∀ y ∈ scope.names, y.2 = .free → ∃ c, X.env.cells.lookup y.1 = some c := fun y hy e => (ok.free y hy e).elim (fun k => I.ok.has _ (.inl k)) fun k => I.ok.has _ (.inr k)
  refine Calls.spliced_cons (gen_make hco (closure_ok free_) nocell h0 ok.kind hr.depth hs ?_)
  refine thn (hi.run pins s σ H _ I h) fun v s1 h1 => thn h1 fun iv s2 h2 => ?_
  obtain ⟨it, fp, tn, J, H2, rfl, I2, T, st2, f2, hP, W, ⟨m0, w0⟩, l0⟩ := h2
  refine ⟨I2.nolimit, ?_⟩
  obtain ⟨⟨ps, hps, ht⟩, _, _⟩ := I2.hok P _ hP
  have cd : PySem.W.CodeHd s2.heap c P := TB.code.keeps I2.bk
  -- behind the code object and the builtins
  have cont : ∀ (code : Value) (s4 : Shared), Inv X pins σ H2 s4 → tn 0 s4.heap → (∀ b ∈ fp, b < s4.heap.objs.size) → (∃ qs : Array Value, s4.heap.get? P = some { cls := .none, data := .fields qs }) →
      wpAny (model X.prog X.w) X.A (builtinsFor X.env.globals X.env.builtins) (fun bi s4 => ∀ h5 : Heap, (∃ m, h5.Ns s4.heap.objs.size m) → (∀ b o, s4.heap.get? b = some o → h5.get? b = some o) → s4.heap.objs.size < h5.objs.size →
          ∀ (nm qn : Value), wpAny (model X.prog X.w) X.A (spliced (backTo pos (starEach [] X.env))) (fun vs s₁ => wpAny (model X.prog X.w) X.A (call (.builtin "any") (Value.ref h5.objs.size :: vs)) (EP X pins σ Q) X.xe s₁) X.xe { s4 with
            gens := s4.gens.push (.fresh (.compStart (.GeneratorExp elt (⟨tg, iter, [], 0⟩ :: more) scope gpos) 0 (.ref it) .none (genEnv scope (cloFrom X.env.cells scope.names []) s4.heap.objs.size code bi X.env))),
            toks := s4.toks + 1 + 1 + 1,
            heap := h5.push { cls := .type "generator", data := .fields #[.int s4.gens.size 0, nm, qn] } }) X.xe s4 := by
    intro code s4 I4 st4 lt4 hT
    obtain ⟨bm, ob, e1, e2, e3, e4, e5, e6, e7, e8⟩ := TB.bm
    refine wpAny_builtinsFor (m := X.mg) (by rw [I4.ok.glob]; exact I4.mod.glob.keeps I4.bk) e1 e2 (I4.bk _ _ e5) e6 e7 e8 ?_
    intro h5 hns kp hlt nm qn
    refine Calls.spliced_nil ?_
    have kp5 : ∀ b o, s4.heap.get? b = some o → (h5.push { cls := .type "generator", data := .fields #[.int s4.gens.size 0, nm, qn] }).get? b = some o := fun b o e => Heap.get?_push_of_some _ (kp b o e)
    have hgen : (h5.push { cls := .type "generator", data := .fields #[.int s4.gens.size 0, nm, qn] }).get? h5.objs.size = some { cls := .type "generator", data := .fields #[.int s4.gens.size 0, nm, qn] } := Heap.get?_push_size _ rfl
    have isG : (h5.push { cls := .type "generator", data := .fields #[.int s4.gens.size 0, nm, qn] }).IsGen h5.objs.size s4.gens.size := ⟨_, nm, qn, hgen, rfl, rfl, rfl⟩
    obtain ⟨hroom, hframes⟩ := over_gen (X := X) (e := .GeneratorExp elt (⟨tg, iter, [], 0⟩ :: more) scope gpos) (it := .ref it) (ce := gce X s4 scope code) rfl hr I4.ok.frames
    have fp4 : ∀ b ∈ fp, FpOk X pins H2 b ∧ b < s4.heap.objs.size := fun b hb => ⟨f2 b hb, lt4 b hb⟩
    have nfp : ∀ b ∈ fp, H2 b = none := fun b hb => (f2 b hb).1
    refine call_function_tree F.kind_any F.plain_any F.entry_any (F.args_any1 _) ?_
    unfold Builtin.«any»
    refine wpAny_bind (m := oneArg "any" _) (wpAny_pure ?_)
    refine wpAny_bind (wpAny_pyIter_gen isG ?_)
    refine wpAny_pure ⟨plainId_quiet F.plain_any_loop _, ?_⟩
    -- the state in which the generator stands
    generalize hs5 : ({ s4 with
            gens := s4.gens.push (.fresh (.compStart (.GeneratorExp elt (⟨tg, iter, [], 0⟩ :: more) scope gpos) 0 (.ref it) .none (genEnv scope (cloFrom X.env.cells scope.names []) s4.heap.objs.size code builtinsNs X.env))),
            toks := s4.toks + 1 + 1 + 1,
            heap := h5.push { cls := .type "generator", data := .fields #[.int s4.gens.size 0, nm, qn] } } : Shared) = s5
    have eh5 : s5.heap = h5.push { cls := .type "generator", data := .fields #[.int s4.gens.size 0, nm, qn] } := by rw [← hs5]
    have eg5 : s5.gens = s4.gens.push (.fresh (.compStart (.GeneratorExp elt (⟨tg, iter, [], 0⟩ :: more) scope gpos) 0 (.ref it) .none (gce X s4 scope code))) := by rw [← hs5]
    have eo5 : s5.os = s4.os := by rw [← hs5]
    have b5 : AllBare s5.gens := by rw [eg5]; exact I4.bare.push rfl
    have IG : ∀ s6 : Shared, s6.heap = s5.heap → s6.os = s5.os → AllBare s6.gens →
        Inv (gx X s4 H2 (gce X s4 scope code) fp (X.A.in1.in1.over (.compLoop (.GeneratorExp elt (⟨tg, iter, [], 0⟩ :: more) scope gpos) 0 (.ref it) .none (gce X s4 scope code)) []) [(h5.objs.size, { cls := .type "generator", data := .fields #[.int s4.gens.size 0, nm, qn] })]) [] (wipe σ (own.map (·.2))) H2 s6 :=
      fun s6 e6 o6 b6 => gen_start I4 ok hN nocell fp4 hroom.hd hframes (fun b o e => by rw [e6, eh5]; exact kp5 b o e) (o6.trans eo5) b6
        (by obtain ⟨m, hm⟩ := hns; exact ⟨m, by rw [e6, eh5]; exact hm.keeps fun b o e => Heap.get?_push_of_some _ e⟩) (by rw [e6, eh5]; exact hgen) hlt (fun v z => by cases z)
    refine any_drain (J := Jz (gx X s4 H2 (gce X s4 scope code) fp (X.A.in1.in1.over (.compLoop (.GeneratorExp elt (⟨tg, iter, [], 0⟩ :: more) scope gpos) 0 (.ref it) .none (gce X s4 scope code)) []) [(h5.objs.size, { cls := .type "generator", data := .fields #[.int s4.gens.size 0, nm, qn] })]))
      (Pe := Pz (gx X s4 H2 (gce X s4 scope code) fp (X.A.in1.in1.over (.compLoop (.GeneratorExp elt (⟨tg, iter, [], 0⟩ :: more) scope gpos) 0 (.ref it) .none (gce X s4 scope code)) []) [(h5.objs.size, { cls := .type "generator", data := .fields #[.int s4.gens.size 0, nm, qn] })]) (wipe σ (own.map (·.2))) fun H3 => Q (.bl false) H3)
      hr.hd hr.depth ?hJ ?hE m0 (.fresh (.compStart (.GeneratorExp elt (⟨tg, iter, [], 0⟩ :: more) scope gpos) 0 (.ref it) .none (gce X s4 scope code))) s5 ?hG (by rw [eh5]; exact isG) (I4.nolimit.keeps fun b o e => by rw [eh5]; exact kp5 b o e) ⟨rfl, ?hS⟩
    case hJ =>
      intro s6 ⟨pins6, σ6, H6, I6⟩
      refine ⟨⟨_, nm, qn, (I6.pin (h5.objs.size, _) (List.mem_append_left _ List.mem_cons_self)).1, rfl, rfl, rfl⟩, I6.nolimit, I6.bare⟩
    case hE =>
      intro s6 h' ⟨H6, I6, q6⟩ hk
      have un := (I6.base).trans (Un.kept (fs := frs X.stack) (ex := fp) (H := H6) (h := s6.heap) (h' := h') hk)
      have J6 : Inv X pins σ H6 { s6.setGen s4.gens.size .finished with heap := h' } :=
        I4.call' (s' := { s6.setGen s4.gens.size .finished with heap := h' }) (ch := fp) I6.os un (I6.hok.kept hk) (bare_set I6.bare rfl) fun b hb => ⟨(f2 b hb).2.2.2.1, (f2 b hb).2.1, (f2 b hb).2.2.2.2.1, (f2 b hb).2.2.2.2.2⟩
      exact ⟨.bl false, H6, J6, rfl, q6⟩
    case hG =>
      rw [eg5]
      exact Array.getElem?_push_size ..
    case hS =>
      have e7 : (s5.setGen s4.gens.size .running).heap = s5.heap := rfl
      have I7 := IG (s5.setGen s4.gens.size .running) rfl rfl (bare_set b5 rfl)
      have st7 : tn 0 (s5.setGen s4.gens.size .running).heap := T.keep _ _ _ st4 fun b _ o e => by
        show s5.heap.get? b = some o
        rw [eh5]
        exact kp5 b o e
      refine seg_start (X := X) (G := X) T st7 (hL s4 H2 code fp _ _ J it tn _ W _ m0 _ _ hroom rfl (fun p hp z => ?_) T I7 st7 nfp w0 l0)
      obtain rfl := List.mem_singleton.mp hp
      exact Nat.lt_asymm (lt4 _ z) hlt
  have sz2 : ∀ b ∈ fp, b < s2.heap.objs.size := fun b hb => by
    obtain ⟨o, e, _⟩ := T.obj _ _ st2 b hb
    exact Heap.lt_size e
  have nP : ∀ b ∈ fp, b ≠ P := fun b hb z => by
    have q := (f2 b hb).1
    rw [z, hP] at q
    cases q
  cases hf : codeAmong gpos ps.toList with
  | none =>
    refine wpAny_genexprCodeX hcode (cd.code hps ht) (cd.tab hps) hf fun c' h' tk hx hge hlt hco' _ htab' _ => ?_
    obtain ⟨o1, vs1, f1, tf, fl, tg1, inF, tx, tt, op, _, _, _, _, _, _, _, _, _, htr, _⟩ := hco'
    have I4 : Inv X pins σ H2 { s2 with heap := h', toks := tk } := inv_tabO (t' := tk) I2 hP (fun b o hb e => hx b o hb e) htab'.2 htr
    exact cont _ { s2 with heap := h', toks := tk } I4 (T.keep _ _ _ st2 fun b hb o e => hx b o (nP b hb) e) (fun b hb => Nat.lt_of_lt_of_le (sz2 b hb) (Nat.le_trans hge (Nat.le_of_lt hlt))) ⟨_, htab'.2⟩
  | some cv =>
    refine wpAny_genexprCode_hit hcode (cd.code hps ht) hf ?_
    exact cont cv s2 I2 st2 sz2 ⟨_, hps⟩
end Ck
/-! ## text K61R6 -/
set_option Elab.async false
set_option linter.all false
set_option maxRecDepth 100000
set_option maxHeartbeats 4000000
namespace Ck
open PySem PySem.Spec PyProof.Rows L2
/-! ### one for -/
theorem segL1 {X : Cx} {scope : Scope} {elt tg iter : Expr} {gpos : Pos} {k : Nat} {g : TG} {te : TE} {vs : List Nat} (hco : scope.isCoroutine = false)
    (pg : ∀ s4 H code fp B pn, PG (gx X s4 H (gce X s4 scope code) fp B pn) tg g) (pe : ∀ s4 H code fp B pn, Room k B → PE (gx X s4 H (gce X s4 scope code) fp B pn) elt te) :
    SegL X scope elt tg iter [] gpos k fun J σw W Qf => tTurnF J g te vs σw W Qf :=
  fun s4 H4 code fp B pn J it tn σw W Qf m s₀ s hr hov hpn T I st nf w l =>
    seg_any1 (G := gx X s4 H4 (gce X s4 scope code) fp B pn) hov rfl rfl rfl hpn T (pg s4 H4 code fp B pn) (pe s4 H4 code fp B pn hr) hco l m 0 m s₀ s H4 (Nat.le_refl _) I st nf w
/-! ### two fors -/
theorem turn2_out (elt tg iter tg1 iter1 : Expr) (scope : Scope) (pos : Pos) (it acc : Value) (env : Env) :
    compTurn (.GeneratorExp elt [⟨tg, iter, [], 0⟩, ⟨tg1, iter1, [], 0⟩] scope pos) 0 it acc env = (do
      standAt iter.pos
      match ← pyNext it with
      | none => pure (.done .next)
      | some v =>
        letOwnedTupleGo tg it v
        assign tg env v
        let x0 ← eval iter1 env
        standAt iter1.pos
        let x1 ← foldedSetIterable iter1 env x0
        let x2 ← holding [x1] (pyIter x1)
        let _ ← runOwn (.compStart (.GeneratorExp elt [⟨tg, iter, [], 0⟩, ⟨tg1, iter1, [], 0⟩] scope pos) 1 x2 acc env) env
        again (.compLoop (.GeneratorExp elt [⟨tg, iter, [], 0⟩, ⟨tg1, iter1, [], 0⟩] scope pos) 0 it acc env)) := by rfl
theorem turn2_in (elt tg iter tg1 iter1 : Expr) (scope : Scope) (pos : Pos) (it acc : Value) (env : Env) :
    compTurn (.GeneratorExp elt [⟨tg, iter, [], 0⟩, ⟨tg1, iter1, [], 0⟩] scope pos) 1 it acc env = (do
      standAt iter1.pos
      match ← pyNext it with
      | none => pure (.done .next)
      | some v =>
        letOwnedTupleGo tg1 it v
        assign tg1 env v
        (do let v ← eval elt env; standAt elt.pos; let _ ← yieldOut env v)
        again (.compLoop (.GeneratorExp elt [⟨tg, iter, [], 0⟩, ⟨tg1, iter1, [], 0⟩] scope pos) 1 it acc env)) := by rfl
/-- the two loops' reading -/
def tTurnF2 (J : It) (g : TG) (wi1 : TI) (g1 : TG) (te : TE) (vs vs1 : List Nat) (σw : L2.St) (W : Nat → Nat → Hp → Prop) (Qf : Hp → Prop) : Prop := ∀ i m H, W i m H →
  (J.stop i H ∧ Qf H) ∨ (J.go i H ∧ ∃ Nx : Nat → Hp → Prop, (∀ k H', Nx k H' → ∃ m', m' ≤ k ∧ W (i + 1) m' H') ∧ ∀ x H', J.yld i H x H' → g x σw H' fun σ2 H2 => wipe σ2 vs = σw ∧ wipe σ2 vs1 = σ2 ∧
    wi1 σ2 H2 fun J1 H3 => ∃ W1 : Nat → Nat → Hp → Prop, (∃ k, k < m ∧ W1 0 k H3) ∧ ∀ j k H, W1 j k H →
      (J1.stop j H ∧ Nx k H) ∨ (J1.go j H ∧ ∃ N1 : Hp → Prop, (∀ H', N1 H' → ∃ k', k' < k ∧ W1 (j + 1) k' H') ∧ ∀ y H', J1.yld j H y H' → g1 y σ2 H' fun σ3 H4 => wipe σ3 vs1 = σ2 ∧ te σ3 H4 fun v H5 => v = .bl false ∧ N1 H5))

section
variable {A : Around} {G : Cx} {elt tg iter tg1 iter1 : Expr} {scope : Scope} {pos : Pos} {it it1 : Addr} {fp fp1 : List Addr} {tn tn1 : Nat → Heap → Prop} {J J1 : It} {g g1 : TG} {te : TE} {wi1 : TI} {vs vs1 : List Nat} {σw σ2 : L2.St} {Qf : Hp → Prop} {R : GenEnd}
/-- the inner loop, over the frame of the outer one -/
theorem seg_in (pins : List (Addr × Obj)) (fr : Frame) (hov : A.over (.compLoop (.GeneratorExp elt [⟨tg, iter, [], 0⟩, ⟨tg1, iter1, [], 0⟩] scope pos) 1 (.ref it1) .none G.env) [fr] = G.A) (hsp : splitAtGen [fr] = none) (hgd : [fr].any Frame.guarded = false)
    (hc : G.calm = true) (hxe : G.xe = fun _ _ => False) (T : Turn G.prog G.w G.K tg1 J1 fp1 it1 tn1) (pg : PG G tg1 g1) (pe : PE G elt te) (hco : G.env.scope.isCoroutine = false) {W1 : Nat → Nat → Hp → Prop} {Nx : Nat → Hp → Prop}
    (turn : ∀ j k H, W1 j k H → (J1.stop j H ∧ Nx k H) ∨ (J1.go j H ∧ ∃ N1 : Hp → Prop, (∀ H', N1 H' → ∃ k', k' < k ∧ W1 (j + 1) k' H') ∧ ∀ y H', J1.yld j H y H' → g1 y σ2 H' fun σ3 H4 => wipe σ3 vs1 = σ2 ∧ te σ3 H4 fun v H5 => v = .bl false ∧ N1 H5))
    (K0 : Nat) (fin : ∀ (n k : Nat) (s₀ s : Shared) (H : Hp), k ≤ n → k ≤ K0 → Inv G pins σ2 H s → Nx k H →
      Seg (model G.prog G.w) A R (YF (Jz G)) n s₀ (.compLoop (.GeneratorExp elt [⟨tg, iter, [], 0⟩, ⟨tg1, iter1, [], 0⟩] scope pos) 1 (.ref it1) .none G.env) (leafOf (.ok .next)) [fr] s) :
    ∀ (n j k : Nat) (s₀ s : Shared) (H : Hp), k ≤ n → k ≤ K0 → Inv G pins σ2 H s → tn1 j s.heap → (∀ b ∈ fp1, FpOk G pins H b) → W1 j k H →
      Seg (model G.prog G.w) A R (YF (Jz G)) n s₀ (.compLoop (.GeneratorExp elt [⟨tg, iter, [], 0⟩, ⟨tg1, iter1, [], 0⟩] scope pos) 1 (.ref it1) .none G.env)
        ((model G.prog G.w).den (.compLoop (.GeneratorExp elt [⟨tg, iter, [], 0⟩, ⟨tg1, iter1, [], 0⟩] scope pos) 1 (.ref it1) .none G.env)) [fr] s := by
  intro n
  induction n with
  | zero =>
    intro j k s₀ s H hkn hk0 I st nf w
    show Seg _ A _ _ _ s₀ _ ((compTurn (.GeneratorExp elt [⟨tg, iter, [], 0⟩, ⟨tg1, iter1, [], 0⟩] scope pos) 1 (.ref it1) .none G.env).onRaise (fun x => do noteFrame x G.env; theTreesLotGoes x)) [fr] s
    rw [turn2_in, Sem.onRaise_eq_wrap]
    refine seg_bind_wrap (wpAny_standAt ?_)
    rcases turn j k H w with ⟨stop, q⟩ | ⟨go, Nx1, hN, step⟩
    · refine seg_bind_wrap ?_
      rw [hov]
      refine thn (T.done G rfl rfl rfl hc j pins s σ2 H _ I nf st stop) fun r s2 ⟨er, I2⟩ => ?_
      subst er
      exact fin 0 k s₀ s2 H hkn hk0 I2 q
    · refine seg_bind_wrap ?_
      rw [hov]
      refine thn (T.item G rfl rfl rfl hc j pins s σ2 H _ I nf st go) fun r s2 ⟨u, er, h2⟩ => ?_
      subst er
      refine seg_bind_wrap ?_
      rw [hov]
      refine thn h2 fun _ s3 ⟨x, H3, I3, r3, y3, st3, n3⟩ => ?_
      refine seg_bind_wrap ?_
      rw [hov]
      have q3 := pg.run pins s3 σ2 H3 x u _ I3 r3 (step x H3 y3)
      rw [hxe] at q3
      refine wpAny_mono q3 (fun _ s4 ⟨σ4, H4, I4, e4, q4⟩ => ?_) fun _ _ z => False.elim z
      rw [Sem.bind_eq_wrap', Sem.bind_eq_wrap', Sem.wrap_wrap, Sem.wrap_wrap]
      refine seg_wrap ?_
      rw [hov]
      have q5 := pe.run pins _ σ4 H4 _ I4 q4
      rw [hxe] at q5
      refine wpAny_mono q5 (fun y s6 ⟨v, H6, I6, r6, ev, nx⟩ => ?_) fun _ _ z => False.elim z
      obtain ⟨m2, hm, _⟩ := hN H6 nx
      omega
  | succ n ih =>
    intro j k s₀ s H hkn hk0 I st nf w
    show Seg _ A _ _ _ s₀ _ ((compTurn (.GeneratorExp elt [⟨tg, iter, [], 0⟩, ⟨tg1, iter1, [], 0⟩] scope pos) 1 (.ref it1) .none G.env).onRaise (fun x => do noteFrame x G.env; theTreesLotGoes x)) [fr] s
    rw [turn2_in, Sem.onRaise_eq_wrap]
    refine seg_bind_wrap (wpAny_standAt ?_)
    rcases turn j k H w with ⟨stop, q⟩ | ⟨go, Nx1, hN, step⟩
    · refine seg_bind_wrap ?_
      rw [hov]
      refine thn (T.done G rfl rfl rfl hc j pins s σ2 H _ I nf st stop) fun r s2 ⟨er, I2⟩ => ?_
      subst er
      exact fin (n + 1) k s₀ s2 H hkn hk0 I2 q
    · refine seg_bind_wrap ?_
      rw [hov]
      refine thn (T.item G rfl rfl rfl hc j pins s σ2 H _ I nf st go) fun r s2 ⟨u, er, h2⟩ => ?_
      subst er
      refine seg_bind_wrap ?_
      rw [hov]
      refine thn h2 fun _ s3 ⟨x, H3, I3, r3, y3, st3, n3⟩ => ?_
      have nf3 : ∀ b ∈ fp1, FpOk G pins H3 b := fun b hb => ⟨n3 b hb, (nf b hb).2⟩
      have I3' := I3.pinned nf3 (T.obj _ _ st3)
      refine seg_bind_wrap ?_
      rw [hov]
      have q3 := pg.run _ s3 σ2 H3 x u _ I3' r3 (step x H3 y3)
      rw [hxe] at q3
      refine wpAny_mono q3 (fun _ s4 ⟨σ4, H4, I4, e4, q4⟩ => ?_) fun _ _ z => False.elim z
      have hy : ∀ v, yieldOut G.env v = yieldValue v := fun v => by simp only [yieldOut, hco, Bool.false_eq_true, if_false]
      simp only [hy]
      rw [Sem.bind_eq_wrap', Sem.bind_eq_wrap', Sem.wrap_wrap, Sem.wrap_wrap]
      refine seg_wrap ?_
      rw [hov]
      have q5 := pe.run _ _ σ4 H4 _ I4 q4
      rw [hxe] at q5
      refine wpAny_mono q5 (fun y s6 ⟨v, H6, I6, r6, ev, nx⟩ => ?_) fun _ _ z => False.elim z
      subst ev
      obtain rfl : y = .bool false := r6
      obtain ⟨m2, hm, w2⟩ := hN H6 nx
      refine seg_at (seg_yield hsp rfl hgd ⟨rfl, ⟨_, _, _, I6⟩, fun s7 e7 o7 b7 => ?_⟩)
      have I7 := inv_like I6 e7 o7 b7
      have pin7 : ∀ b ∈ fp1, ∀ o, s3.heap.get? b = some o → s7.heap.get? b = some o ∧ H6 b = none := fun b hb o e =>
        let z := I7.pin (b, o) (List.mem_append_right _ (List.mem_append_right _ (mem_pinsAt hb e)))
        ⟨z.1, z.2.1⟩
      refine seg_again rfl (ih (j + 1) m2 s7 s7 H6 (by omega) (by omega) (I7.unpinned.weak ?_ fun j v e => ?_) (T.keep _ _ _ st3 fun b hb o e => (pin7 b hb o e).1) (fun b hb => ⟨?_, (nf b hb).2⟩) w2)
      · rw [← e4, wipe_length]
      · rw [← e4] at e
        exact (wipe_some e).1
      · obtain ⟨o, e, _⟩ := T.obj _ _ st3 b hb
        exact (pin7 b hb o e).2
theorem seg_in_start {n : Nat} {s₀ s : Shared} {Y : Protocol} {fr : Frame} (T : Turn G.prog G.w G.K tg1 J1 fp1 it1 tn1) (st : tn1 0 s.heap)
    (h : Seg (model G.prog G.w) A R Y n s₀ (.compLoop (.GeneratorExp elt [⟨tg, iter, [], 0⟩, ⟨tg1, iter1, [], 0⟩] scope pos) 1 (.ref it1) .none G.env) ((model G.prog G.w).den (.compLoop (.GeneratorExp elt [⟨tg, iter, [], 0⟩, ⟨tg1, iter1, [], 0⟩] scope pos) 1 (.ref it1) .none G.env)) [fr] s) :
    Seg (model G.prog G.w) A R Y n s₀ (.compStart (.GeneratorExp elt [⟨tg, iter, [], 0⟩, ⟨tg1, iter1, [], 0⟩] scope pos) 1 (.ref it1) .none G.env) ((model G.prog G.w).den (.compStart (.GeneratorExp elt [⟨tg, iter, [], 0⟩, ⟨tg1, iter1, [], 0⟩] scope pos) 1 (.ref it1) .none G.env)) [fr] s := by
  show Seg _ A _ _ _ s₀ _ ((compStart (.GeneratorExp elt [⟨tg, iter, [], 0⟩, ⟨tg1, iter1, [], 0⟩] scope pos) 1 (.ref it1) .none G.env).onRaise (fun x => do noteFrame x G.env; standAt theWindowsPlace)) [fr] s
  unfold compStart
  rw [Sem.onRaise_eq_wrap]
  show Seg _ A _ _ _ s₀ _ ((ask >>= _).wrap _ _ _ _) [fr] s
  refine seg_bind_wrap (wpAny_askSetting ?_)
  split
  · exact seg_again rfl h
  · refine seg_bind_wrap (wpAny_rule ?_)
    show Seg _ A _ _ _ s₀ _ ((standAt iter1.pos >>= _).wrap _ _ _ _) [fr] s
    exact seg_bind_wrap (wpAny_standAt (seg_bind_wrap (T.self _ 0 s _ _ st (seg_again rfl h))))
theorem seg_any2 (hov : A.over (.compLoop (.GeneratorExp elt [⟨tg, iter, [], 0⟩, ⟨tg1, iter1, [], 0⟩] scope pos) 0 (.ref it) .none G.env) [] = G.A) (hc : G.calm = true) (hxe : G.xe = fun _ _ => False) (hex : G.ex = fp) (hpn : ∀ p ∈ G.pn, p.1 ∉ fp)
    (T : Turn G.prog G.w G.K tg J fp it tn) (pg : PG G tg g) (pi1 : PI G tg1 iter1 wi1) (hs1 : ∀ x, foldedSetIterable iter1 G.env x = pure x) (pg1 : PG G tg1 g1) (pe : PE G elt te) (hco : G.env.scope.isCoroutine = false) {W : Nat → Nat → Hp → Prop} (turn : tTurnF2 J g wi1 g1 te vs vs1 σw W Qf) :
    ∀ (m n i : Nat) (s₀ s : Shared) (H : Hp), m ≤ n → Inv G [] σw H s → tn i s.heap → (∀ b ∈ fp, H b = none) → W i m H →
      Seg (model G.prog G.w) A (RF (Pz G σw Qf)) (YF (Jz G)) n s₀ (.compLoop (.GeneratorExp elt [⟨tg, iter, [], 0⟩, ⟨tg1, iter1, [], 0⟩] scope pos) 0 (.ref it) .none G.env)
        ((model G.prog G.w).den (.compLoop (.GeneratorExp elt [⟨tg, iter, [], 0⟩, ⟨tg1, iter1, [], 0⟩] scope pos) 0 (.ref it) .none G.env)) [] s := by
  intro m
  induction m using Nat.strongRecOn with
  | ind m ih =>
    intro n i s₀ s H hmn I st nf w
    show Seg _ A _ _ _ s₀ _ ((compTurn (.GeneratorExp elt [⟨tg, iter, [], 0⟩, ⟨tg1, iter1, [], 0⟩] scope pos) 0 (.ref it) .none G.env).onRaise (leaving G.env)) [] s
    rw [turn2_out, Sem.onRaise_eq_wrap]
    refine seg_bind_wrap (wpAny_standAt ?_)
    rcases turn i m H w with ⟨stop, q⟩ | ⟨go, Nx, hN, step⟩
    · refine seg_bind_wrap ?_
      rw [hov]
      refine thn (T.done G rfl rfl rfl hc i [] s σw H _ I (fp_ok (pins := []) hex hpn I nf) st stop) fun r s2 ⟨er, I2⟩ => ?_
      subst er
      exact seg_end (.ok .next) ⟨rfl, H, I2, q⟩
    · refine seg_bind_wrap ?_
      rw [hov]
      refine thn (T.item G rfl rfl rfl hc i [] s σw H _ I (fp_ok (pins := []) hex hpn I nf) st go) fun r s2 ⟨u, er, h2⟩ => ?_
      subst er
      refine seg_bind_wrap ?_
      rw [hov]
      refine thn h2 fun _ s3 ⟨x, H3, I3, r3, y3, st3, n3⟩ => ?_
      have I3' := I3.pinned (fp_ok (pins := []) hex hpn I3 n3) (T.obj _ _ st3)
      refine seg_bind_wrap ?_
      rw [hov]
      have q3 := pg.run _ s3 σw H3 x u _ I3' r3 (step x H3 y3)
      rw [hxe] at q3
      refine wpAny_mono q3 (fun _ s4 ⟨σ4, H4, I4, e4, e4', q4⟩ => ?_) fun _ _ z => False.elim z
      refine seg_bind_wrap ?_
      rw [hov]
      have q5 := pi1.run _ _ σ4 H4 _ I4 q4
      rw [hxe] at q5
      refine wpAny_mono q5 (fun v s5 h5 => ?_) fun _ _ z => False.elim z
      refine seg_bind_wrap (wpAny_standAt ?_)
      refine seg_bind_wrap (wpAny_of_eq (hs1 v) ?_)
      refine seg_bind_wrap (wpAny_holding ?_)
      rw [hov]
      refine wpAny_mono h5 (fun iv s6 h6 => ?_) fun _ _ z => False.elim z
      obtain ⟨it1, fp1, tn1, J1, H6, rfl, I6, T1, st6, f6, W1, ⟨k1, hk1, w1⟩, turn1⟩ := h6
      rw [Sem.bind_eq_wrap', Sem.wrap_wrap]
      unfold runOwn run
      rw [Sem.onRaise_eq_wrap, Sem.wrap_wrap]
      show Seg _ A _ _ _ s₀ _ (.call (.compStart (.GeneratorExp elt [⟨tg, iter, [], 0⟩, ⟨tg1, iter1, [], 0⟩] scope pos) 1 (.ref it1) .none G.env) none _ _ _) [] s6
      refine seg_call fun p => ?_
      refine seg_in_start T1 st6 ?_
      refine seg_in _ _ ((GenW.over_loop rfl rfl).trans hov) rfl rfl hc hxe T1 pg1 pe hco (σ2 := σ4) (vs1 := vs1) (Nx := Nx) turn1 k1 (fun n7 k7 s07 s7 H7 hk7 hk71 I7 nx7 => ?_) n 0 k1 s₀ s6 H6 (by omega) (Nat.le_refl _) I6 st6 f6 w1
      obtain ⟨m', hm', w'⟩ := hN k7 H7 nx7
      have pin7 : ∀ b ∈ fp, ∀ o, s3.heap.get? b = some o → s7.heap.get? b = some o ∧ H7 b = none := fun b hb o e =>
        let z := I7.pin (b, o) (List.mem_append_right _ (List.mem_append_right _ (mem_pinsAt hb e)))
        ⟨z.1, z.2.1⟩
      refine seg_leaf (.ok .next) ?_
      refine seg_again rfl (ih m' (by omega) n7 (i + 1) s07 s7 H7 (by omega) ((I7.unpinned (pins := [])).weak ?_ fun j v e => ?_) (T.keep _ _ _ st3 fun b hb o e => (pin7 b hb o e).1) (fun b hb => ?_) w')
      · rw [← e4, wipe_length]
      · rw [← e4] at e
        exact (wipe_some e).1
      · obtain ⟨o, e, _⟩ := T.obj _ _ st3 b hb
        exact (pin7 b hb o e).2
end
theorem segL2 {X : Cx} {scope : Scope} {elt tg iter tg1 iter1 : Expr} {gpos : Pos} {k : Nat} {g g1 : TG} {te : TE} {wi1 : TI} {vs vs1 : List Nat} (hco : scope.isCoroutine = false)
    (pg : ∀ s4 H code fp B pn, PG (gx X s4 H (gce X s4 scope code) fp B pn) tg g) (pi1 : ∀ s4 H code fp B pn, PI (gx X s4 H (gce X s4 scope code) fp B pn) tg1 iter1 wi1) (hs1 : ∀ env x, foldedSetIterable iter1 env x = pure x)
    (pg1 : ∀ s4 H code fp B pn, PG (gx X s4 H (gce X s4 scope code) fp B pn) tg1 g1) (pe : ∀ s4 H code fp B pn, Room k B → PE (gx X s4 H (gce X s4 scope code) fp B pn) elt te) :
    SegL X scope elt tg iter [⟨tg1, iter1, [], 0⟩] gpos k fun J σw W Qf => tTurnF2 J g wi1 g1 te vs vs1 σw W Qf :=
  fun s4 H4 code fp B pn J it tn σw W Qf m s₀ s hr hov hpn T I st nf w l =>
    seg_any2 (G := gx X s4 H4 (gce X s4 scope code) fp B pn) hov rfl rfl rfl hpn T (pg s4 H4 code fp B pn) (pi1 s4 H4 code fp B pn) (hs1 _) (pg1 s4 H4 code fp B pn) (pe s4 H4 code fp B pn hr) hco l m m 0 s₀ s H4 (Nat.le_refl _) I st nf w
end Ck
/-! ## text K61N -/
set_option Elab.async false
set_option linter.all false
set_option maxRecDepth 100000
set_option maxHeartbeats 4000000
namespace Ck
/-! ### pairings and what fills them -/
structure Valid (ps : List (Option Nat)) (n : Nat) : Prop where
  len : ps.length = n
  lt : ∀ g, some g ∈ ps → g < n
  nd : (ps.filterMap id).Nodup
structure Full (fs : List Nat) (n : Nat) : Prop where
  len : fs.length = n
  lt : ∀ g ∈ fs, g < n
  nd : fs.Nodup
theorem Full.mem {fs : List Nat} {n : Nat} (F : Full fs n) {j : Nat} (h : j < n) : j ∈ fs := by
  refine Classical.byContradiction fun hj => ?_
  have h1 : (j :: fs).Nodup := List.nodup_cons.mpr ⟨hj, F.nd⟩
  have h2 : (j :: fs) ⊆ List.range n := by
    intro x hx
    rcases List.mem_cons.mp hx with rfl | hx
    · exact List.mem_range.mpr h
    · exact List.mem_range.mpr (F.lt x hx)
  have h3 := h1.length_le_of_subset h2
  rw [List.length_cons, List.length_range, F.len] at h3
  omega
def at0 (fs : List Nat) (i : Nat) : Nat := fs.getD i 0
theorem at0_get {fs : List Nat} {i : Nat} (h : i < fs.length) : fs[i]? = some (at0 fs i) := by
  unfold at0
  rw [List.getD_eq_getElem?_getD, List.getElem?_eq_getElem h]
  rfl
theorem at0_eq {fs : List Nat} {i : Nat} (h : i < fs.length) : fs[i] = at0 fs i := by
  have := at0_get h
  rw [List.getElem?_eq_getElem h] at this
  exact Option.some.inj this
theorem at0_mem {fs : List Nat} {i : Nat} (h : i < fs.length) : at0 fs i ∈ fs := by
  rw [← at0_eq h]; exact List.getElem_mem h
theorem Full.at_lt {fs : List Nat} {n : Nat} (F : Full fs n) {i : Nat} (h : i < n) : at0 fs i < n := F.lt _ (at0_mem (by rw [F.len]; exact h))
def invL (fs : List Nat) (n : Nat) : List Nat := (List.range n).map (fs.idxOf ·)
theorem invL_len (fs : List Nat) (n : Nat) : (invL fs n).length = n := by unfold invL; rw [List.length_map, List.length_range]
theorem invL_at {fs : List Nat} {n j : Nat} (h : j < n) : at0 (invL fs n) j = fs.idxOf j := by
  unfold at0 invL
  rw [List.getD_eq_getElem?_getD, List.getElem?_map, List.getElem?_range h]
  rfl
theorem Full.inv_l {fs : List Nat} {n i : Nat} (F : Full fs n) (h : i < n) : at0 (invL fs n) (at0 fs i) = i := by
  rw [invL_at (F.at_lt h), ← at0_eq (by rw [F.len]; exact h)]
  exact F.nd.idxOf_getElem i _
theorem Full.inv_lt {fs : List Nat} {n j : Nat} (F : Full fs n) (h : j < n) : at0 (invL fs n) j < n := by
  rw [invL_at h, ← F.len]
  exact List.idxOf_lt_length_iff.mpr (F.mem h)
theorem Full.inv_r {fs : List Nat} {n j : Nat} (F : Full fs n) (h : j < n) : at0 fs (at0 (invL fs n) j) = j := by
  have h1 := F.inv_lt h
  have h2 : fs.idxOf j < fs.length := List.idxOf_lt_length_iff.mpr (F.mem h)
  rw [invL_at h, ← at0_eq h2]
  exact List.getElem_idxOf h2
theorem Full.inj {fs : List Nat} {n i j : Nat} (F : Full fs n) (hi : i < n) (hj : j < n) (e : at0 fs i = at0 fs j) : i = j := by
  rw [← F.inv_l hi, ← F.inv_l hj, e]
/-- from one-to-one on the places -/
theorem Full.of {fs : List Nat} {n : Nat} (len : fs.length = n) (lt : ∀ i, i < n → at0 fs i < n) (inj : ∀ i j, i < n → j < n → at0 fs i = at0 fs j → i = j) : Full fs n := by
  refine ⟨len, fun g hg => ?_, ?_⟩
  · obtain ⟨i, hi, e⟩ := List.mem_iff_getElem.mp hg
    rw [← e, at0_eq hi]
    exact lt i (by omega)
  · rw [List.nodup_iff_pairwise_ne, List.pairwise_iff_getElem]
    intro i j hi hj hij e
    rw [at0_eq hi, at0_eq hj] at e
    have := inj i j (by omega) (by omega) e
    omega
theorem Full.inv {fs : List Nat} {n : Nat} (F : Full fs n) : Full (invL fs n) n :=
  Full.of (invL_len fs n) (fun i h => F.inv_lt h) fun i j hi hj e => by rw [← F.inv_r hi, ← F.inv_r hj, e]
theorem at0_ext {xs ys : List Nat} {n : Nat} (hx : xs.length = n) (hy : ys.length = n) (h : ∀ i, i < n → at0 xs i = at0 ys i) : xs = ys := by
  refine List.ext_getElem (by omega) fun i h1 h2 => ?_
  rw [at0_eq h1, at0_eq h2]
  exact h i (by omega)
theorem full_range (n : Nat) : Full (List.range n) n := ⟨List.length_range, fun g h => List.mem_range.mp h, List.nodup_range⟩
theorem at0_range {n i : Nat} (h : i < n) : at0 (List.range n) i = i := by
  unfold at0
  rw [List.getD_eq_getElem?_getD, List.getElem?_range h]
  rfl
theorem at0_map {n i : Nat} {f : Nat → Nat} (h : i < n) : at0 ((List.range n).map f) i = f i := by
  unfold at0
  rw [List.getD_eq_getElem?_getD, List.getElem?_map, List.getElem?_range h]
  rfl
/-! ### filled -/
def fillL : List (Option Nat) → List Nat → List Nat
  | [], _ => []
  | some g :: r, fr => g :: fillL r fr
  | none :: r, f :: fr => f :: fillL r fr
  | none :: r, [] => 0 :: fillL r []
def nons (ps : List (Option Nat)) : Nat := (ps.filter Option.isNone).length
theorem fillL_perm : ∀ (ps : List (Option Nat)) (fr : List Nat), fr.length = nons ps → (fillL ps fr).Perm (ps.filterMap id ++ fr)
  | [], fr, h => by
    have : fr = [] := List.length_eq_zero_iff.mp h
    subst this
    exact List.Perm.nil
  | some g :: r, fr, h => by
    show (g :: fillL r fr).Perm (g :: (r.filterMap id ++ fr))
    exact (fillL_perm r fr h).cons g
  | none :: r, [], h => by
    simp [nons] at h
  | none :: r, f :: fr, h => by
    show (f :: fillL r fr).Perm (r.filterMap id ++ (f :: fr))
    have h2 : fr.length = nons r := by simpa [nons] using h
    exact ((fillL_perm r fr h2).cons f).trans List.perm_middle.symm
theorem fillL_len : ∀ (ps : List (Option Nat)) (fr : List Nat), (fillL ps fr).length = ps.length
  | [], _ => rfl
  | some g :: r, fr => by show (fillL r fr).length + 1 = _; rw [fillL_len]; rfl
  | none :: r, f :: fr => by show (fillL r fr).length + 1 = _; rw [fillL_len]; rfl
  | none :: r, [] => by show (fillL r []).length + 1 = _; rw [fillL_len]; rfl
theorem fillL_at : ∀ (ps : List (Option Nat)) (fr : List Nat) (i g : Nat), ps[i]? = some (some g) → at0 (fillL ps fr) i = g
  | some g :: r, fr, 0, h, e => by simp at e; subst e; rfl
  | none :: r, f :: fr, 0, h, e => by simp at e
  | none :: r, [], 0, h, e => by simp at e
  | some g :: r, fr, i + 1, h, e => by
    have := fillL_at r fr i h (by simpa using e)
    exact this
  | none :: r, f :: fr, i + 1, h, e => by
    have := fillL_at r fr i h (by simpa using e)
    exact this
  | none :: r, [], i + 1, h, e => by
    have := fillL_at r [] i h (by simpa using e)
    exact this
  | [], fr, i, h, e => by simp at e
def freeL (ps : List (Option Nat)) (n : Nat) : List Nat := (List.range n).filter fun i => !(ps.contains (some i))
def fullOf (ps : List (Option Nat)) : List Nat := fillL ps (freeL ps ps.length)
theorem nons_add : ∀ ps : List (Option Nat), nons ps + (ps.filterMap id).length = ps.length
  | [] => rfl
  | some g :: r => by
    have := nons_add r
    show nons r + ((r.filterMap id).length + 1) = r.length + 1
    omega
  | none :: r => by
    have := nons_add r
    show (nons r + 1) + (r.filterMap id).length = r.length + 1
    omega
theorem filter_add (p : Nat → Bool) : ∀ l : List Nat, (l.filter p).length + (l.filter fun x => !p x).length = l.length
  | [] => rfl
  | a :: r => by
    have := filter_add p r
    rw [List.filter_cons, List.filter_cons]
    cases p a <;> simp <;> omega
theorem mem_fm {ps : List (Option Nat)} {g : Nat} : g ∈ ps.filterMap id ↔ some g ∈ ps := by
  rw [List.mem_filterMap]
  constructor
  · rintro ⟨a, h, e⟩
    have e : a = some g := e
    exact e ▸ h
  · exact fun h => ⟨some g, h, rfl⟩
theorem free_len {ps : List (Option Nat)} {n : Nat} (V : Valid ps n) : (freeL ps n).length = nons ps := by
  have h1 := nons_add ps
  have h2 := filter_add (fun i => !(ps.contains (some i))) (List.range n)
  have h3 : ((List.range n).filter fun x => !(!(ps.contains (some x)))).Perm (ps.filterMap id) := by
    refine (List.perm_ext_iff_of_nodup (List.nodup_range.filter _) V.nd).mpr fun x => ?_
    rw [List.mem_filter, mem_fm, List.mem_range]
    simp
    exact fun h => V.lt x h
  rw [h3.length_eq, List.length_range] at h2
  have h4 := V.len
  show ((List.range n).filter _).length = _
  omega
theorem full_of {ps : List (Option Nat)} {n : Nat} (V : Valid ps n) : Full (fullOf ps) n := by
  unfold fullOf
  rw [V.len]
  have P := fillL_perm ps (freeL ps n) (free_len V)
  refine ⟨by rw [fillL_len, V.len], fun g hg => ?_, P.nodup_iff.mpr ?_⟩
  · rcases List.mem_append.mp (P.mem_iff.mp hg) with h | h
    · exact V.lt g (mem_fm.mp h)
    · exact List.mem_range.mp (List.mem_filter.mp h).1
  · refine List.nodup_append.mpr ⟨V.nd, List.nodup_range.filter _, fun a ha b hb e => ?_⟩
    subst e
    have := (List.mem_filter.mp hb).2
    simp at this
    exact this (mem_fm.mp ha)
theorem fullOf_at {ps : List (Option Nat)} {i g : Nat} (h : ps[i]? = some (some g)) : at0 (fullOf ps) i = g := fillL_at _ _ _ _ h
theorem fullOf_len (ps : List (Option Nat)) : (fullOf ps).length = ps.length := fillL_len _ _
end Ck
/-! ## text K61E -/
set_option Elab.async false
set_option linter.all false
set_option maxRecDepth 100000
set_option maxHeartbeats 4000000
namespace Ck
open PySem PySem.Spec PyProof.Rows L2
/-! ### the tables of the four defs with generator expressions -/
def TT (K : PySem.W.Frag) (H : Hp) : Prop := ∀ p ∈ tf, H (He.cT K p).2 = some (tabO (He.cT K p).2)
theorem TT.same {K : PySem.W.Frag} {H H' : Hp} (t : TT K H) (s : Same H H') : TT K H' := fun p hp => s _ _ (t p hp)
abbrev TBs (K : PySem.W.Frag) (mg : Str → Option Value) (base : Heap) : Prop := ∀ p ∈ tf, LamX.TabB base mg (He.cT K p).1 (He.cT K p).2
/-! ### new tuples in a list -/
def TupsAt (H : Hp) (ts : List Addr) (rows : List (List V)) : Prop := Paired (fun t r => H t = some (.tup r)) ts rows
theorem TupsAt.same {H H' : Hp} {ts : List Addr} {rows : List (List V)} (t : TupsAt H ts rows) (s : Same H H') : TupsAt H' ts rows := Paired.mapP t fun _ _ e => s _ _ e
theorem TupsAt.put {H : Hp} {ts : List Addr} {rows : List (List V)} {D : Addr} {xs ys : List V} (t : TupsAt H ts rows) (h : H D = some (.lst xs)) : TupsAt (upd H D (.lst ys)) ts rows :=
  Paired.mapP t fun a r e => by rw [upd_ne (ne_of e h (by intro z; cases z))]; exact e
theorem paired_snoc {α β : Type} {F : α → β → Prop} : ∀ {l1 : List α} {l2 : List β} {a : α} {b : β}, Paired F l1 l2 → F a b → Paired F (l1 ++ [a]) (l2 ++ [b])
  | _, _, _, _, .nil, h => .cons h .nil
  | _, _, _, _, .cons r t, h => .cons r (paired_snoc t h)
theorem paired_mapR {α β γ δ : Type} {F : α → β → Prop} {G : α → γ → Prop} {f : δ → β} {g : δ → γ} : ∀ {l : List α} {ds : List δ}, Paired F l (ds.map f) → (∀ a x, F a (f x) → G a (g x)) → Paired G l (ds.map g)
  | [], [], _, _ => .nil
  | _ :: _, _ :: _, .cons h t, k => .cons (k _ _ h) (paired_mapR t k)
theorem TupsAt.get {H : Hp} : ∀ {ts : List Addr} {rows : List (List V)} {i : Nat} {r : List V}, TupsAt H ts rows → rows[i]? = some r → ∃ t, ts[i]? = some t ∧ H t = some (.tup r)
  | _, _, _, _, .nil, e => by simp at e
  | _, _, 0, _, .cons h _, e => by
    simp at e
    subst e
    exact ⟨_, rfl, h⟩
  | _, _, i + 1, r, .cons _ t, e => by
    obtain ⟨u, h1, h2⟩ := TupsAt.get (i := i) (r := r) t (by simpa using e)
    exact ⟨u, by simpa using h1, h2⟩
theorem TupsAt.length {H : Hp} {ts : List Addr} {rows : List (List V)} (t : TupsAt H ts rows) : ts.length = rows.length := Paired.length t
def LcT (H1 : Hp) (D : Addr) (rows : Nat → List (List V)) (i : Nat) (H : Hp) : Prop := Same H1 H ∧ ∃ ts, H D = some (.lst (ts.map V.ref)) ∧ TupsAt H ts (rows i)
theorem lcT_start {H1 : Hp} {D : Addr} {rows : Nat → List (List V)} (nD : H1 D = none) (h : rows 0 = []) : LcT H1 D rows 0 (upd H1 D (.lst [])) := ⟨same_upd nD, [], upd_same, by rw [h]; exact .nil⟩
theorem lcT_put {H1 H : Hp} {D p : Addr} {rows : Nat → List (List V)} {i : Nat} {r : List V} (nD : H1 D = none) (q : LcT H1 D rows i H) (np : H p = none) (e : rows (i + 1) = rows i ++ [r]) (hl : (rows i).length ≤ 100) :
    ∃ a, upd H p (.tup r) D = some (.lst a) ∧ a.length < sizeLine ∧ LcT H1 D rows (i + 1) (upd (upd H p (.tup r)) D (.lst (a ++ [.ref p]))) := by
  obtain ⟨s, ts, hD, ht⟩ := q
  have nDp : D ≠ p := ne_of_none hD np
  have hD' : upd H p (.tup r) D = some (.lst (ts.map V.ref)) := by rw [upd_ne nDp]; exact hD
  refine ⟨ts.map V.ref, hD', ?_, Same.up (s.trans (same_upd np)) nD, ts ++ [p], ?_, ?_⟩
  · rw [List.length_map, ht.length]; exact small hl
  · rw [upd_same, List.map_append]; rfl
  · rw [e]
    exact TupsAt.put (paired_snoc (ht.same (same_upd np)) (by rw [upd_same])) hD'
theorem lcT_skip {H1 H : Hp} {D : Addr} {rows : Nat → List (List V)} {i : Nat} (q : LcT H1 D rows i H) (e : rows (i + 1) = rows i) : LcT H1 D rows (i + 1) H := by
  obtain ⟨s, ts, hD, ht⟩ := q
  exact ⟨s, ts, hD, by rw [e]; exact ht⟩
theorem lc_skip {H1 H : Hp} {D : Addr} {acc : Nat → List V} {i : Nat} (q : LcP H1 D acc i H) (e : acc (i + 1) = acc i) : LcP H1 D acc (i + 1) H := ⟨q.1, by rw [e]; exact q.2⟩
/-- any(..) over a list whose elements are all False, the heap as it was -/
theorem anyF_list {K : PySem.W.Frag} {a : Addr} {xs : List V} {g : TG} {te : TE} {vs : List Nat} {σw : L2.St} {H : Hp} {Qf : Hp → Prop} (h : SqL K H a xs)
    (step : ∀ (i : Nat) (x : V), xs[i]? = some x → g x σw H fun σ2 H2 => wipe σ2 vs = σw ∧ te σ2 H2 fun v H3 => v = .bl false ∧ H3 = H) (fin : Qf H) :
    ∃ W : Nat → Nat → Hp → Prop, (∃ m, W 0 m H) ∧ tTurnF (Itl K a) g te vs σw W Qf := by
  refine ⟨fun i m H' => H' = H ∧ i + m = xs.length, ⟨xs.length, rfl, Nat.zero_add _⟩, ?_⟩
  rintro i m H' ⟨rfl, e⟩
  by_cases hi : i < xs.length
  · have g1 : xs[i]? = some xs[i] := List.getElem?_eq_getElem hi
    refine .inr ⟨⟨xs, xs[i], h, g1⟩, fun H2 => H2 = H', fun H2 e2 => ⟨m - 1, by omega, e2, by omega⟩, fun x H2 hy => ?_⟩
    obtain ⟨rfl, fv⟩ := hy
    exact step i x (fv _ h)
  · exact .inl ⟨⟨xs, h, by omega⟩, fin⟩
/-- dict(..) of pairs whose keys are all apart has them all -/
theorem valV_none {kvs : List (Key × V)} {k : Key} (h : k ∉ kvs.map (·.1)) : valV kvs k = none := by
  cases e : valV kvs k with
  | none => rfl
  | some v => exact absurd (valV_in e) h
theorem merge_apart : ∀ (more kvs : List (Key × V)), (kvs.map (·.1) ++ more.map (·.1)).Nodup → mergeK kvs more = kvs ++ more
  | [], kvs, _ => by simp [mergeK]
  | p :: r, kvs, h => by
    have h1 : p.1 ∉ kvs.map (·.1) := fun z => by
      rw [List.map_cons, List.nodup_append] at h
      exact h.2.2 _ z _ List.mem_cons_self rfl
    show mergeK (putK kvs p.1 p.2) r = _
    rw [putK_new _ (valV_none h1), merge_apart r (kvs ++ [(p.1, p.2)]) (by
      rw [List.map_append, List.append_assoc]
      exact h), List.append_assoc]
    rfl
theorem dict_len (ns : List Nat) (v : V) (h : ns.Nodup) : (mergeK [] (ns.map fun (n : Nat) => ((Sum.inl ((n : Nat) : Int) : Key), v))).length = ns.length := by
  rw [merge_apart _ _ (by
    rw [List.map_nil, List.nil_append, List.map_map]
    refine (List.pairwise_map.mpr (h.imp fun {a b} hab z => hab ?_))
    have z2 : (a : Int) = (b : Int) := Sum.inl.inj z
    omega), List.nil_append, List.length_map]
/-! ### check_pairing -/
theorem fm_take (ps : List (Option Nat)) {i : Nat} (h : i < ps.length) : (ps.take (i + 1)).filterMap id = (ps.take i).filterMap id ++ (match ps[i] with | some g => [g] | none => []) := by
  rw [List.take_add_one, List.getElem?_eq_getElem h, List.filterMap_append]
  congr 1
  cases ps[i] <;> rfl
theorem fm_mem {ps : List (Option Nat)} {g : Nat} (h : g ∈ ps.filterMap id) : some g ∈ ps := by
  obtain ⟨a, ha, e⟩ := List.mem_filterMap.mp h
  have e : a = some g := e
  exact e ▸ ha
theorem fm_len (ps : List (Option Nat)) : (ps.filterMap id).length ≤ ps.length := List.length_filterMap_le _ _
theorem ov_get {ps : List (Option Nat)} {i : Nat} {x : V} (h : (ps.map ov)[i]? = some x) : ∃ hi : i < ps.length, x = ov ps[i] := by
  rw [List.getElem?_map] at h
  obtain ⟨o, h1, h2⟩ := Option.map_eq_some_iff.mp h
  obtain ⟨hi, e⟩ := List.getElem?_eq_some_iff.mp h1
  exact ⟨hi, by rw [e, h2]⟩
theorem nv_get' {ps : List Nat} {i : Nat} {x : V} (h : (ps.map nv)[i]? = some x) : ∃ hi : i < ps.length, x = nv ps[i] := by
  rw [List.getElem?_map] at h
  obtain ⟨o, h1, h2⟩ := Option.map_eq_some_iff.mp h
  obtain ⟨hi, e⟩ := List.getElem?_eq_some_iff.mp h1
  exact ⟨hi, by rw [e, h2]⟩
section
variable {P : Program} {w : World} {K : PySem.W.Frag} {mg : Str → Option Value} {base : Heap}
def spCheckPairing (K : PySem.W.Frag) : Sp := fun vs H Q _ => ∃ (a : Addr) (ps : List (Option Nat)) (n : Nat), vs = [.ref a, nv n] ∧ H a = some (.tup (ps.map ov)) ∧ Valid ps n ∧ n ≤ 100 ∧ TT K H ∧ ∀ H', Same H H' → Q (.ref a) H'
theorem sc_checkPairing : FnScope ["pairs", "many", "found", "taken", "gate"] ["pairs", "many"] (defScope dCheckPairing) := ⟨rfl, rfl, rfl, by decide +kernel, rfl, by decide +kernel, by decide +kernel⟩
theorem g_checkPairing (T : Tx K mg) (TB : TBs K mg base) : GDef P w K mg base "check_pairing" 3 ["pairs", "many"] (spCheckPairing K) := by
  refine gdef (st := dCheckPairing) T (by unfold fn defs1; simp) (by unfold faG; simp) sc_checkPairing (fun vs H Q E h => ?_) (fun _ _ _ _ _ _ us hl => match us, hl with | [_, _], _ => rfl) (fun f cdv A outer s H vs Q E ec hr h => ?_)
  · obtain ⟨a, ps, n, rfl, _⟩ := h
    rfl
  · obtain ⟨a, ps, n, rfl, ha, va, hn, tt, k⟩ := h
    have nd := sc_checkPairing.nd
    have htf : (("check_pairing", none) : He.Defn) ∈ tf := List.mem_cons_self
    have hTB := TB _ htf
    refine ⟨_, pss_cons (ps_set (i := 2) nd rfl (.inl rfl) (pe_tupleOf (by rfl) T.tuple (pv 0)))
      (pss_cons (ps_setLc (i := 3) (own := [("gate", 4)]) (g := gName 4) rfl nd rfl rfl (sw_true rfl rfl rfl (by decide +kernel)) (pi_tup (pv 2)) (blkOk_by (N := ["pairs", "many", "found", "taken", "gate"]) (sc := defScope dCheckPairing) (by decide +kernel))
        (fun _ _ _ _ _ => pg_name (i := 4) nd rfl (Or.inl rfl)) (fun _ _ _ _ _ => pts_one (pt_cmpR op_notN (pv 4) pe_non (nomark _))) (fun _ _ _ _ _ => pv 4))
      (pss_cons (ps_if (PW.pt (pw_or (pt_cmpR op_ne (pe_callB call_len (by rfl) T.len PySem.boot_len (pa_cons (pv 2) pa_nil)) (pv 1) (nomark _))
        (pw_or1 (pt_val (pe_any (own := [("gate", 4)]) hr (by rfl) T.any hTB ec rfl nd (blkOk_by (N := ["pairs", "many", "found", "taken", "gate"]) (sc := defScope dCheckPairing) (by decide +kernel)) (by decide +kernel) rfl rfl (pi_list (pv 3)) (by intro _; rfl)
          (segL1 (vs := [4]) (k := 1) rfl (fun _ _ _ _ _ _ => pg_name (i := 4) nd rfl (Or.inl rfl)) (fun _ _ _ _ _ _ _ => pe_not (pe_chain op_le op_lt pe_int (pv 4) (pv 1)))))))))
        (pss_one ps_never) pss_nil)
      (pss_cons (ps_if (pt_cmpR op_ne (pe_callB call_lenD (by rfl) T.len PySem.boot_len (pa_cons (pe_callTy (call_dictP rfl) (by rfl) T.dict (by decide +kernel) (pa_cons
          (pe_lc (own := [("gate", 4)]) (g := gName 4) rfl nd (pi_list (pv 3)) (blkOk_by (N := ["pairs", "many", "found", "taken", "gate"]) (sc := defScope dCheckPairing) (by decide +kernel))
            (fun _ _ _ _ _ => pg_name (i := 4) nd rfl (Or.inl rfl)) (fun _ _ _ _ _ => pts_nil) (fun _ _ _ _ _ => pe_tup (pa_cons (pv 4) (pa_cons pe_int pa_nil)))) pa_nil)) pa_nil))
          (pe_callB call_len_seq (by rfl) T.len PySem.boot_len (pa_cons (pv 3) pa_nil)) (nomark _)) (pss_one ps_never) pss_nil)
      (pss_one (ps_ret (pv 2)))))), ?_⟩
    -- found = tuple(pairs); taken = [gate for gate in found if gate is not None]
    refine ⟨_, rfl, .inr ⟨a, _, rfl, SqT.of ha, ?_⟩⟩
    refine ⟨_, rfl, a, rfl, ⟨_, SqT.of ha⟩, fun D nD => ?_⟩
    refine lc_it walk_tup (LcP H D fun i => ((ps.take i).filterMap id).map nv) (lc_start nD rfl) (fun i H1 _ p => SqT.of (p.1 _ _ ha)) (fun i x H1 H2 hi p y => ?_) (fun H1 p => ?_)
    · obtain ⟨rfl, hx⟩ := y
      obtain ⟨hi', rfl⟩ := ov_get hx
      refine ⟨rfl, _, rfl, rfl, _, rfl, ?_⟩
      cases e : ps[i] with
      | none =>
        refine iteF ?_
        refine lc_skip p ?_
        rw [fm_take ps hi', e, List.append_nil]
      | some g =>
        refine iteT ?_
        refine ⟨_, rfl, lc_put nD p (Same.refl _) ?_ ?_⟩
        · rw [fm_take ps hi', e, List.map_append]
          rfl
        · have h1 := fm_len (ps.take i)
          have h2 := va.len
          rw [List.length_take] at h1
          rw [List.length_map]
          omega
    · -- len(found) != many or any(..)
      obtain ⟨s1, hD⟩ := p
      generalize htk : ps.filterMap id = tk at *
      have hD : H1 D = some (.lst (tk.map nv)) := by
        refine hD.trans ?_
        show some (HO.lst (((ps.take (ps.map ov).length).filterMap id).map nv)) = _
        rw [List.length_map, List.take_length, htk]
      have lt : tk.length ≤ 100 := by
        have h1 := fm_len ps
        have h2 := va.len
        rw [htk] at h1
        omega
      refine ⟨_, rfl, _, _, rfl, .inr ⟨_, SqT.of (s1 _ _ ha), rfl⟩, _, rfl, rfl, _, rfl, ?_⟩
      refine iteNS (by rw [List.length_map, va.len]; rfl) ?_
      refine ⟨_, rfl, D, rfl, ⟨_, SqL.of hD⟩, tt.same s1 _ htf, anyF_list (SqL.of hD) (fun i x hx => ?_) ?_⟩
      · obtain ⟨hi, rfl⟩ := nv_get' hx
        have hg : tk[i] < n := va.lt _ (fm_mem (by rw [htk]; exact List.getElem_mem hi))
        refine ⟨rfl, _, rfl, _, _, rfl, rfl, _, rfl, ?_⟩
        rw [if_pos (decide_eq_true (by omega))]
        refine ⟨_, rfl, _, _, rfl, rfl, _, rfl, ?_⟩
        rw [decide_eq_true (by omega)]
        exact ⟨rfl, rfl⟩
      · refine ⟨_, rfl, iteF ?_⟩
        -- len(dict([(gate, 1) for gate in taken])) != len(taken)
        refine ⟨_, rfl, D, rfl, ⟨_, SqL.of hD⟩, fun D2 nD2 => ?_⟩
        refine lc_it walk_list (LcT H1 D2 fun i => (tk.take i).map fun g => [nv g, .int 1]) (lcT_start nD2 rfl) (fun i H2 _ p => SqL.of (p.1 _ _ hD)) (fun i x H2 H3 hi p y => ?_) (fun H2 p => ?_)
        · obtain ⟨rfl, hx⟩ := y
          obtain ⟨hi', rfl⟩ := nv_get' hx
          refine ⟨rfl, tyes ?_⟩
          refine ⟨_, rfl, (show 2 ≤ sizeLine by decide), fun q nq => ?_⟩
          refine lcT_put nD2 p nq ?_ (by rw [List.length_map, List.length_take]; omega)
          rw [List.take_add_one, List.getElem?_eq_getElem hi', List.map_append]
          rfl
        · obtain ⟨s2, ts, hD2, hts⟩ := p
          have hts : TupsAt H2 ts (tk.map fun g => [nv g, .int 1]) := by
            have e : (fun i => (tk.take i).map fun g => [nv g, V.int 1]) (tk.map nv).length = tk.map fun g => [nv g, V.int 1] := by
              show (tk.take (tk.map nv).length).map _ = _
              rw [List.length_map, List.take_length]
            exact e ▸ hts
          refine ⟨D2, ts, tk.map fun (g : Nat) => ((Sum.inl (g : Int) : Key), V.int 1), rfl, SqL.of hD2, ?_, fun d nd2 => ?_⟩
          · exact paired_mapR hts fun a x e => SqT.of e
          · refine ⟨d, _, rfl, upd_same, ?_⟩
            have sd : Same H1 (upd H2 d (.dK (mergeK [] (tk.map fun (g : Nat) => ((Sum.inl (g : Int) : Key), V.int 1))))) := s2.trans (same_upd nd2)
            refine ⟨_, rfl, _, _, rfl, .inl (SqL.of (sd _ _ hD)), rfl, _, rfl, ?_⟩
            refine iteNS (by rw [List.length_map, dict_len tk (V.int 1) (by rw [← htk]; exact va.nd)]) ?_
            exact ⟨_, rfl, k _ (s1.trans sd)⟩
end
end Ck
/-! ## text K61F -/
set_option Elab.async false
set_option linter.all false
set_option maxRecDepth 100000
set_option maxHeartbeats 4000000
namespace Ck
open PySem PySem.Spec PyProof.Rows L2
section
variable {P : Program} {w : World} {K : PySem.W.Frag} {mg : Str → Option Value} {base : Heap}
theorem flat_ov (ps : List (Option Nat)) : (ps.map ov).all flatV = true := by
  rw [List.all_map]
  refine List.all_eq_true.mpr fun x _ => ?_
  cases x <;> rfl
theorem inV_ov (ps : List (Option Nat)) (g : Nat) : inV (nv g) (ps.map ov) = ps.contains (some g) := by
  induction ps with
  | nil => rfl
  | cons a r ih =>
    rw [List.contains_cons, ← ih]
    show ((eqV (ov a) (nv g)) || _) = _
    congr 1
    cases a with
    | none => rfl
    | some m =>
      show ((m : Int) == (g : Int)) = (some g == some m)
      rw [Bool.eq_iff_iff]
      simp
      omega
theorem seqIx0 (n : Nat) : seqIndex? 0 (n + 1) = some 0 := by
  unfold seqIndex?
  simp
/-! ### filled -/
def spFilled : Sp := fun vs H Q _ => ∃ (a : Addr) (ps : List (Option Nat)) (n : Nat), vs = [.ref a] ∧ H a = some (.tup (ps.map ov)) ∧ Valid ps n ∧ n ≤ 100 ∧ ∀ p H', Same H H' → H p = none → H' p = some (.tup ((fullOf ps).map nv)) → Q (.ref p) H'
theorem sc_filled : FnScope ["pairs", "free", "gate"] ["pairs"] (defScope dFilled) := ⟨rfl, rfl, rfl, by decide +kernel, rfl, by decide +kernel, by decide +kernel⟩
def FillP (H1 : Hp) (D Fa : Addr) (ps : List (Option Nat)) (full : List Nat) (i : Nat) (H : Hp) : Prop :=
  Same H1 H ∧ H D = some (.lst ((full.take i).map nv)) ∧ ∃ fr : List Nat, H Fa = some (.lst (fr.map nv)) ∧ full.drop i = fillL (ps.drop i) fr ∧ fr.length = nons (ps.drop i)
theorem g_filled (T : Tx K mg) : GDef P w K mg base "filled" 1 ["pairs"] spFilled := by
  refine gdef (st := dFilled) T (by unfold fn defs1; simp) (by unfold faG; simp) sc_filled (fun vs H Q E h => ?_) (fun _ _ _ _ _ _ us hl => match us, hl with | [_], _ => rfl) (fun f cdv A outer s H vs Q E ec hr h => ?_)
  · obtain ⟨a, ps, n, rfl, _⟩ := h
    rfl
  · obtain ⟨a, ps, n, rfl, ha, va, hn, k⟩ := h
    have nd := sc_filled.nd
    refine ⟨_, pss_cons (ps_set (i := 1) nd rfl (.inr rfl) (pe_lc (own := [("gate", 2)]) (g := gName 2) rfl nd (pi_range1 (by rfl) T.range (pa_cons (pe_callB call_len_seq (by rfl) T.len PySem.boot_len (pa_cons (pv 0) pa_nil)) pa_nil))
        (blkOk_by (N := ["pairs", "free", "gate"]) (sc := defScope dFilled) (own := [("gate", 2)]) (by decide +kernel)) (fun _ _ _ _ _ => pg_name (i := 2) nd rfl (Or.inl rfl)) (fun _ _ _ _ _ => pts_one (pt_cmpR (r := rIn K true) op_notIn_seq (pv 2) (pv 0) (by rfl))) (fun _ _ _ _ _ => pv 2)))
      (pss_one (ps_ret (pe_tupleOf (by rfl) T.tuple (pe_lc (own := [("gate", 2)]) (g := gName 2) (tt := tYes) rfl nd (pi_tup (pv 0))
        (blkOk_by (N := ["pairs", "free", "gate"]) (sc := defScope dFilled) (own := [("gate", 2)]) (by decide +kernel)) (fun _ _ _ _ _ => pg_name (i := 2) nd rfl (Or.inl rfl)) (fun _ _ _ _ _ => pts_nil)
        (fun _ _ _ _ _ => pe_ifExp (ta := tBM K "list" rPopAt (tVar 1) (tCons (tC (.int 0)) tNil)) (pt_cmpR op_isN (pv 2) pe_non (nomark _)) (pe_bm PySem.F.plainAttrs_list PySem.F.slot_list_pop PySem.F.type_list_pop mt_popAt (pv 1) (pa_cons pe_int pa_nil)) (pv 2)))))), ?_⟩
    refine ⟨_, rfl, _, _, rfl, .inr (SqT.of ha), _, rfl, (by rw [List.length_map, va.len]; omega), (by rw [List.length_map, va.len]; omega), fun F nF => ?_⟩
    refine lc_it walk_range (LcP H F fun i => ((List.range i).filter fun j => !(ps.contains (some j))).map nv) (lc_start nF rfl) (fun _ _ _ _ => trivial) (fun i x H1 H2 hi p y => ?_) (fun H1 p => ?_)
    · obtain ⟨rfl, hx⟩ := y
      have hx : x = nv i := by rw [hx]; show V.int _ = V.int _; rw [Int.zero_add]
      subst hx
      refine ⟨rfl, _, rfl, _, rfl, a, _, rfl, .inr (SqT.of (p.1 _ _ ha)), rfl, flat_ov ps, _, rfl, ?_⟩
      show if (!inV (nv i) (ps.map ov)) = true then _ else _
      rw [inV_ov]
      have e1 : ((List.range (i + 1)).filter fun j => !(ps.contains (some j))).map nv = ((List.range i).filter fun j => !(ps.contains (some j))).map nv ++ (if (!ps.contains (some i)) = true then [nv i] else []) := by
        rw [List.range_succ, List.filter_append, List.map_append]
        congr 1
        rw [List.filter_cons, List.filter_nil]
        cases ps.contains (some i) <;> rfl
      by_cases h : (!ps.contains (some i)) = true
      · rw [if_pos h]
        rw [if_pos h] at e1
        refine ⟨_, rfl, lc_put nF p (Same.refl _) e1 ?_⟩
        have h1 := List.length_filter_le (fun j => !(ps.contains (some j))) (List.range i)
        rw [List.length_range] at h1
        rw [List.length_map] at hi ⊢
        have := va.len
        omega
      · rw [if_neg h]
        rw [if_neg h, List.append_nil] at e1
        exact lc_skip p e1
    · have hF : H1 F = some (.lst ((freeL ps n).map nv)) := by
        refine p.2.trans ?_
        show some (HO.lst (((List.range (((ps.map ov).length : Int)).toNat).filter fun j => !(ps.contains (some j))).map nv)) = _
        rw [List.length_map, va.len]
        rfl
      have s1 := p.1
      refine ⟨_, rfl, a, rfl, ⟨_, SqT.of (s1 _ _ ha)⟩, fun D nD => ?_⟩
      have nDH : H D = none := s1.free nD
      have DF : F ≠ D := ne_of_none hF nD
      have len0 : (fullOf ps).length = n := by rw [fullOf_len, va.len]
      refine lc_it walk_tup (FillP H D F ps (fullOf ps)) ⟨s1.trans (same_upd nD), by rw [upd_same]; rfl, freeL ps n, by rw [upd_ne DF]; exact hF, by rw [List.drop_zero, List.drop_zero, fullOf, va.len], by rw [List.drop_zero]; exact free_len va⟩ (fun i H1 _ p => SqT.of (p.1 _ _ ha)) (fun i x H2 H3 hi p y => ?_) (fun H2 p => ?_)
      · obtain ⟨rfl, hx⟩ := y
        obtain ⟨hi', rfl⟩ := ov_get hx
        obtain ⟨s2, hD, fr, hFr, e1, e2⟩ := p
        rw [List.drop_eq_getElem_cons hi'] at e1 e2
        have hi2 : i < (fullOf ps).length := by rw [len0, ← va.len]; exact hi'
        rw [List.drop_eq_getElem_cons hi2] at e1
        have tk : (fullOf ps).take (i + 1) = (fullOf ps).take i ++ [(fullOf ps)[i]] := by rw [List.take_add_one, List.getElem?_eq_getElem hi2]; rfl
        have sz : ((fullOf ps).take i).length ≤ 100 := by rw [List.length_take]; omega
        refine ⟨rfl, tyes ?_⟩
        refine ⟨_, rfl, rfl, _, rfl, ?_⟩
        cases e : ps[i] with
        | none =>
          rw [e] at e1 e2
          refine iteT ?_
          cases fr with
          | nil => simp [nons] at e2
          | cons g fr =>
            have e3 : (fullOf ps)[i] = g := (List.cons.inj e1).1
            have e4 := (List.cons.inj e1).2
            have e5 : fr.length = nons (ps.drop (i + 1)) := by simpa [nons] using e2
            refine ⟨_, rfl, .inl ⟨rfl, _, SqL.of hFr⟩, F, _, 0, 0, nv g, rfl, rfl, hFr, by decide, by decide, seqIx0 _, rfl, ?_⟩
            refine ⟨_, by rw [upd_ne (Ne.symm DF)]; exact hD, by rw [List.length_map]; exact small sz, ?_, ?_, fr, ?_, e4, e5⟩
            · exact Same.up (Same.up s2 nF) nDH
            · rw [upd_same, tk, e3, List.map_append]; rfl
            · rw [upd_ne DF, upd_same]; rfl
        | some g =>
          rw [e] at e1 e2
          refine iteF ?_
          have e3 : (fullOf ps)[i] = g := (List.cons.inj e1).1
          refine ⟨_, rfl, _, hD, by rw [List.length_map]; exact small sz, Same.up s2 nDH, ?_, fr, by rw [upd_ne DF]; exact hFr, (List.cons.inj e1).2, e2⟩
          rw [upd_same, tk, e3, List.map_append]; rfl
      · obtain ⟨s2, hD, _⟩ := p
        refine .inl ⟨D, _, rfl, SqL.of hD, fun q nq => ?_⟩
        refine k q _ (s2.trans (same_upd nq)) (s2.free nq) ?_
        rw [upd_same, List.length_map, va.len, ← len0, List.take_length]
end
end Ck
/-! ## text K61G -/
set_option Elab.async false
set_option linter.all false
set_option maxRecDepth 100000
set_option maxHeartbeats 4000000
namespace Ck
open PySem PySem.Spec PyProof.Rows L2
theorem walk_enumT {K : PySem.W.Frag} {a : Addr} {xs : List V} : Walk (ItE K a) xs.length (fun H => SqT K H a xs) (YPair (fun i => some (.int (i : Nat))) (fun i => xs[i]?)) := by
  refine ⟨fun i _ hi q => ⟨xs, xs[i], q, by simp [hi]⟩, fun _ q => ⟨xs, q, rfl⟩, fun i H v H' _ q y => ?_⟩
  obtain ⟨T, x, h1, h2, h3, h4⟩ := y
  exact ⟨T, .int (i : Nat), x, h1, h2, h3, rfl, h4 xs q⟩
theorem iteD {c A B : Prop} [Decidable c] (hc : c) (h : A) : if (decide c) = true then A else B := by
  rw [decide_eq_true hc]
  exact iteT h
theorem iteDF {c A B : Prop} [Decidable c] (hc : ¬ c) (h : B) : if (decide c) = true then A else B := by
  rw [decide_eq_false hc]
  exact iteF h
theorem iteNT {c A B : Prop} [Decidable c] (hc : ¬ c) (h : A) : if (!decide c) = true then A else B := by
  rw [decide_eq_false hc]
  exact iteT h
theorem small64 {n : Nat} (h : n ≤ 1000) : -(2 ^ 64) < (n : Int) ∧ (n : Int) < 2 ^ 64 := ⟨by omega, by omega⟩
theorem ixN_nat {n k : Nat} (h : k < n) : ixN n (k : Int) = some k := by
  unfold ixN
  simp [h]
theorem flat1 {α : Type} (n : Nat) (x : α) : (List.replicate n [x]).flatten = List.replicate n x := by
  induction n with
  | zero => rfl
  | succ n ih => rw [List.replicate_succ, List.flatten_cons, ih, List.replicate_succ]; rfl
section
variable {P : Program} {w : World} {K : PySem.W.Frag} {mg : Str → Option Value} {base : Heap}
/-! ### turned_over -/
def spTurnedOver : Sp := fun vs H Q _ => ∃ (a : Addr) (fs : List Nat) (n : Nat), vs = [.ref a] ∧ H a = some (.tup (fs.map nv)) ∧ Full fs n ∧ n ≤ 100 ∧ ∀ p H', Same H H' → H p = none → H' p = some (.tup ((invL fs n).map nv)) → Q (.ref p) H'
theorem sc_turnedOver : FnScope ["pairs", "found", "one", "gate"] ["pairs"] (defScope dTurnedOver) := ⟨rfl, rfl, rfl, by decide +kernel, rfl, by decide +kernel, by decide +kernel⟩
def revA (fs : List Nat) (n i : Nat) : List (Option Nat) := (List.range n).map fun j => if fs.idxOf j < i then some (fs.idxOf j) else none
theorem revA_len (fs : List Nat) (n i : Nat) : (revA fs n i).length = n := by unfold revA; rw [List.length_map, List.length_range]
theorem revA_get {fs : List Nat} {n i j : Nat} (h : j < (revA fs n i).length) : (revA fs n i)[j] = if fs.idxOf j < i then some (fs.idxOf j) else none := by
  simp [revA]
theorem revA_zero (fs : List Nat) (n : Nat) : (revA fs n 0).map ov = List.replicate n V.non := by
  refine List.ext_getElem (by rw [List.length_map, revA_len, List.length_replicate]) fun i h1 h2 => ?_
  rw [List.getElem_replicate, List.getElem_map]
  unfold revA
  rw [List.getElem_map, if_neg (Nat.not_lt_zero _)]
  rfl
theorem revA_succ {fs : List Nat} {n i : Nat} (F : Full fs n) (h : i < n) : (revA fs n (i + 1)) = (revA fs n i).set (at0 fs i) (some i) := by
  refine List.ext_getElem (by rw [List.length_set, revA_len, revA_len]) fun j h1 h2 => ?_
  rw [revA_len] at h1
  have hi : i < fs.length := by rw [F.len]; exact h
  rw [List.getElem_set, revA_get, revA_get]
  by_cases e : at0 fs i = j
  · subst e
    have e1 : fs.idxOf (at0 fs i) = i := by rw [← at0_eq hi]; exact F.nd.idxOf_getElem i _
    rw [if_pos rfl, e1, if_pos (Nat.lt_succ_self i)]
  · rw [if_neg e]
    have e2 : fs.idxOf j ≠ i := fun z => e (by
      have := F.inv_r (j := j) h1
      rw [invL_at h1, z] at this
      exact this)
    by_cases c : fs.idxOf j < i
    · rw [if_pos c, if_pos (by omega)]
    · rw [if_neg c, if_neg (by omega)]
theorem revA_end {fs : List Nat} {n : Nat} (F : Full fs n) : (revA fs n n).map ov = (invL fs n).map nv := by
  unfold revA invL
  rw [List.map_map, List.map_map]
  refine List.map_congr_left fun j hj => ?_
  have h1 : fs.idxOf j < n := by
    have := F.inv_lt (List.mem_range.mp hj)
    rw [invL_at (List.mem_range.mp hj)] at this
    exact this
  show ov (if fs.idxOf j < n then some (fs.idxOf j) else none) = nv (fs.idxOf j)
  rw [if_pos h1]
  rfl
theorem g_turnedOver (T : Tx K mg) : GDef P w K mg base "turned_over" 1 ["pairs"] spTurnedOver := by
  refine gdef (st := dTurnedOver) T (by unfold fn defs1; simp) (by unfold faG; simp) sc_turnedOver (fun vs H Q E h => ?_) (fun _ _ _ _ _ _ us hl => match us, hl with | [_], _ => rfl) (fun f cdv A outer s H vs Q E ec hr h => ?_)
  · obtain ⟨a, ps, n, rfl, _⟩ := h
    rfl
  · obtain ⟨a, fs, n, rfl, ha, va, hn, k⟩ := h
    have nd := sc_turnedOver.nd
    refine ⟨_, pss_cons (ps_set (i := 1) nd rfl (.inl rfl) (pe_op op_rep (pe_lst (pa_cons pe_non pa_nil)) (pe_callB call_len_seq (by rfl) T.len PySem.boot_len (pa_cons (pv 0) pa_nil))))
      (pss_cons (ps_for PassesOwn.never rfl (pi_enumT (by rfl) T.enumerate (pa_cons (pv 0) pa_nil)) (pg_tup rfl (pgs_cons (pg_name (i := 2) nd rfl (Or.inl rfl)) (pgs_cons (pg_name (i := 3) nd rfl (Or.inl rfl)) pgs_nil)))
        (pss_one (ps_if (pt_cmpR op_notN (pv 3) pe_non (nomark _)) (pss_one (ps_asg (pv 2) (pg_sub (pv 1) (pv 3) set_list))) pss_nil)))
      (pss_one (ps_ret (pe_tupleOf (by rfl) T.tuple (pv 1))))), ?_⟩
    refine ⟨by decide, fun L nL => ?_⟩
    have hL : H L = none := nL
    refine ⟨_, rfl, _, _, rfl, .inr (SqT.of (same_upd nL _ _ ha)), L, _, _, rfl, rfl, upd_same, by omega, by rw [List.length_map, va.len]; omega, ?_, fun F nF => ?_⟩
    · rw [List.length_map, va.len]
      show 1 * (n : Int).toNat ≤ sizeLine
      have := small' hn
      omega
    · have hF0 : H F = none := (same_upd nL).free nF
      have e0 : (List.replicate ((((fs.map nv).length : Nat) : Int)).toNat [V.non]).flatten = (revA fs n 0).map ov := by
        rw [flat1, revA_zero, List.length_map, va.len]
        rfl
      rw [e0]
      refine ⟨_, rfl, a, _, rfl, SqT.of (((same_upd nL).trans (same_upd nF)) _ _ ha), ?_⟩
      refine for_it walk_enumT (fun i σ H1 => (∃ x y, σ = [some (.ref a), some (.ref F), x, y]) ∧ Same H H1 ∧ H1 F = some (.lst ((revA fs n i).map ov))) ⟨⟨_, _, rfl⟩, (same_upd nL).trans (same_upd nF), upd_same⟩ (fun i σ H1 _ p => SqT.of (p.2.1 _ _ ha)) (fun i x σ H1 H2 hi p y => ?_) (fun σ H1 p => ?_)
      · obtain ⟨⟨x0, y0, rfl⟩, s1, hF⟩ := p
        obtain ⟨t, u, v, rfl, nt, rfl, e1, e2⟩ := y
        obtain rfl : V.int (i : Nat) = u := Option.some.inj e1
        obtain ⟨hi', rfl⟩ := nv_get' e2
        have hi2 : i < n := by rw [← va.len]; exact hi'
        refine ⟨t, _, rfl, SqT.of upd_same, rfl, _, _, rfl, _, _, rfl, rfl, ?_⟩
        refine ⟨_, rfl, rfl, _, rfl, iteT ?_⟩
        have tF : F ≠ t := ne_of_none hF nt
        refine ⟨_, rfl, _, rfl, _, rfl, F, _, _, at0 fs i, rfl, rfl, by rw [upd_ne tF]; exact hF, ?_, ⟨_, _, rfl⟩, ?_, ?_⟩
        · rw [List.length_map, revA_len, at0_eq hi']
          exact ixN_nat (va.at_lt hi2)
        · exact Same.up (s1.trans (same_upd nt)) hF0
        · rw [upd_same, revA_succ va hi2, List.map_set]
          rfl
      · obtain ⟨⟨x0, y0, rfl⟩, s1, hF⟩ := p
        refine ⟨_, rfl, .inl ⟨F, _, rfl, SqL.of hF, fun q nq => ?_⟩⟩
        refine k q _ (s1.trans (same_upd nq)) (s1.free nq) ?_
        rw [upd_same, List.length_map, va.len, revA_end va]
/-! ### logarithm -/
def spLogarithm : Sp := fun vs H Q _ => ∃ l : Nat, vs = [nv (2 ^ l)] ∧ l ≤ 6 ∧ ∀ H', Same H H' → Q (nv l) H'
theorem sc_logarithm : FnScope ["many", "power", "found"] ["many"] (defScope dLogarithm) := ⟨rfl, rfl, rfl, by decide +kernel, rfl, by decide +kernel, by decide +kernel⟩
theorem g_logarithm (T : Tx K mg) : GDef P w K mg base "logarithm" 1 ["many"] spLogarithm := by
  refine gdef (st := dLogarithm) T (by unfold fn defs1; simp) (by unfold faG; simp) sc_logarithm (fun vs H Q E h => ?_) (fun _ _ _ _ _ _ us hl => match us, hl with | [_], _ => rfl) (fun f cdv A outer s H vs Q E ec hr h => ?_)
  · obtain ⟨l, rfl, _⟩ := h
    rfl
  · obtain ⟨l, rfl, hl, k⟩ := h
    have nd := sc_logarithm.nd
    refine ⟨_, pss_cons (ps_asg (pe_tup (pa_cons pe_int (pa_cons pe_int pa_nil))) (pg_tup rfl (pgs_cons (pg_name (i := 1) nd rfl (Or.inl rfl)) (pgs_cons (pg_name (i := 2) nd rfl (Or.inl rfl)) pgs_nil))))
      (pss_cons (ps_while PassesOwn.never (pt_cmpR op_lt (pv 1) (pv 0) (nomark _)) (pss_cons (ps_aug (i := 1) nd rfl (.inl rfl) pe_int ip_mul) (pss_one (ps_aug (i := 2) nd rfl (.inl rfl) pe_int ip_add))))
      (pss_cons (ps_if (pt_cmpR op_ne (pv 1) (pv 0) (nomark _)) (pss_one ps_never) pss_nil) (pss_one (ps_ret (pv 2))))), ?_⟩
    refine ⟨by decide, fun t nt => ⟨t, _, rfl, SqT.of upd_same, rfl, _, _, rfl, _, _, rfl, rfl, ?_⟩⟩
    refine ⟨fun m σ H1 => ∃ j : Nat, m = l - j ∧ j ≤ l ∧ Same H H1 ∧ σ = [some (nv (2 ^ l)), some (nv (2 ^ j)), some (nv j)], ⟨l, 0, rfl, Nat.zero_le _, same_upd nt, rfl⟩, ?_⟩
    rintro m σ H1 ⟨j, rfl, hj, s1, rfl⟩
    refine ⟨_, rfl, _, rfl, _, _, rfl, rfl, _, rfl, ?_⟩
    by_cases c : j < l
    · have hlt : (2 : Nat) ^ j < 2 ^ l := Nat.pow_lt_pow_right (by decide) c
      refine iteD (by exact_mod_cast hlt) ?_
      refine ⟨_, fun σ' H' q => ⟨l - (j + 1), by omega, q⟩, ?_⟩
      have hle : (2 : Nat) ^ j ≤ 2 ^ 6 := Nat.pow_le_pow_right (by decide) (by omega)
      refine ⟨_, rfl, _, _, rfl, rfl, ?_, _, rfl, _, _, rfl, rfl, j + 1, rfl, c, s1, ?_⟩
      · exact .inl (small64 (Nat.le_trans hle (by decide)))
      · have e1 : ((2 ^ j : Nat) : Int) * 2 = ((2 ^ (j + 1) : Nat) : Int) := by rw [Nat.pow_succ]; push_cast; rfl
        show [some (nv (2 ^ l)), some (V.int (((2 ^ j : Nat) : Int) * 2)), some (V.int ((j : Int) + 1))] = _
        rw [e1]
        rfl
    · have e : j = l := by omega
      subst e
      refine iteDF (Int.lt_irrefl _) ?_
      refine ⟨_, rfl, _, rfl, rfl, _, rfl, iteNS rfl ⟨_, rfl, ?_⟩⟩
      exact k H1 s1
end
end Ck
/-! ## text K61H -/
set_option Elab.async false
set_option linter.all false
set_option maxRecDepth 100000
set_option maxHeartbeats 4000000
namespace Ck
open PySem PySem.Spec PyProof.Rows L2
/-! ### a Net -/
def netF (n : Nat) (W : Addr) : List (Str × V) := [("many", nv n), ("wires", .ref W)]
def Net0 (K : PySem.W.Frag) : Addr := He.ga K "Net"
def NetAt (K : PySem.W.Frag) (H : Hp) (o : Addr) (n : Nat) (rows : List (List Nat)) : Prop :=
  ∃ (dx W : Addr) (rs : List Addr), H o = some (.ins (He.ga K "Net") dx (netF n W)) ∧ H W = some (.lst (rs.map V.ref)) ∧ TupsAt H rs (rows.map fun r => r.map nv)
theorem NetAt.same {K : PySem.W.Frag} {H H' : Hp} {o : Addr} {n : Nat} {rows : List (List Nat)} (N : NetAt K H o n rows) (s : Same H H') : NetAt K H' o n rows := by
  obtain ⟨dx, W, rs, h1, h2, h3⟩ := N
  exact ⟨dx, W, rs, s _ _ h1, s _ _ h2, h3.same s⟩
structure NetOk (n : Nat) (rows : List (List Nat)) : Prop where
  two : 2 ≤ n
  hun : n ≤ 100
  even : n % 2 = 0
  len : 2 ≤ rows.length
  len2 : rows.length ≤ 100
  full : ∀ r ∈ rows, Full r n
theorem nF_many {n : Nat} {W : Addr} : (netF n W).lookup ("many" : Str) = some (nv n) := rfl
theorem nF_wires {n : Nat} {W : Addr} : (netF n W).lookup ("wires" : Str) = some (V.ref W) := rfl
theorem nF_stages {n : Nat} {W : Addr} : (netF n W).lookup ("stages" : Str) = none := rfl
theorem nF_check {n : Nat} {W : Addr} : (netF n W).lookup ("check" : Str) = none := rfl
theorem nF_way {n : Nat} {W : Addr} : (netF n W).lookup ("way" : Str) = none := rfl
theorem map_some_ov (fs : List Nat) : (fs.map some).map ov = fs.map nv := by rw [List.map_map]; rfl
theorem fm_some (fs : List Nat) : (fs.map some).filterMap id = fs := by
  induction fs with
  | nil => rfl
  | cons a r ih => show a :: ((r.map some).filterMap id) = a :: r; rw [ih]
theorem Full.valid {fs : List Nat} {n : Nat} (F : Full fs n) : Valid (fs.map some) n :=
  ⟨by rw [List.length_map, F.len], fun g hg => by
    obtain ⟨a, ha, e⟩ := List.mem_map.mp hg
    exact (Option.some.inj e) ▸ F.lt a ha, by rw [fm_some]; exact F.nd⟩
theorem ref_get {ts : List Addr} {i : Nat} {x : V} (h : (ts.map V.ref)[i]? = some x) : ∃ t, ts[i]? = some t ∧ x = .ref t := by
  rw [List.getElem?_map] at h
  obtain ⟨o, h1, h2⟩ := Option.map_eq_some_iff.mp h
  exact ⟨o, h1, h2.symm⟩
theorem TupsAt.row {H : Hp} {ts : List Addr} {rows : List (List V)} {i : Nat} {t : Addr} (T : TupsAt H ts rows) (h : ts[i]? = some t) : ∃ r, rows[i]? = some r ∧ H t = some (.tup r) := by
  exact paired_get T h
theorem rows_get {rows : List (List Nat)} {i : Nat} {r : List V} (h : (rows.map fun r => r.map nv)[i]? = some r) : ∃ q, rows[i]? = some q ∧ r = q.map nv := by
  rw [List.getElem?_map] at h
  obtain ⟨o, h1, h2⟩ := Option.map_eq_some_iff.mp h
  exact ⟨o, h1, h2.symm⟩
section
variable {P : Program} {w : World} {K : PySem.W.Frag} {mg : Str → Option Value} {base : Heap}
def spNetInit (K : PySem.W.Frag) : Sp := fun vs H Q _ => ∃ (H0 : Hp) (o dx W0 : Addr) (n : Nat) (rs : List Addr) (rows : List (List Nat)), vs = [.ref o, nv n, .ref W0] ∧ Same H0 H ∧ H0 o = none ∧ H o = some (.ins (He.ga K "Net") dx []) ∧
  H0 W0 = some (.lst (rs.map V.ref)) ∧ TupsAt H0 rs (rows.map fun r => r.map nv) ∧ NetOk n rows ∧ TT K H0 ∧ ∀ H', Same H0 H' → NetAt K H' o n rows → Q .non H'
theorem sc_netInit : FnScope ["self", "many", "wires", "row"] ["self", "many", "wires"] (defScope dNetInit) := ⟨rfl, rfl, rfl, by decide +kernel, rfl, by decide +kernel, by decide +kernel⟩
theorem Tx.net (T : Tx K mg) : Cls K (He.ga K "Net") := T.cl _ (by unfold faC; simp)
theorem Tx.nMany (T : Tx K mg) : NoAttr K (He.ga K "Net") "many" := T.na _ _ (by unfold faC; simp)
theorem Tx.nWires (T : Tx K mg) : NoAttr K (He.ga K "Net") "wires" := T.na _ _ (by unfold faC; simp)
theorem k_net (T : Tx K mg) (TB : TBs K mg base) (C : GDef P w K mg base "check_pairing" 3 ["pairs", "many"] (spCheckPairing K)) (F : GDef P w K mg base "is_full" 1 ["pairs"] spIsFull) :
    KDef P w K mg base "Net" (He.ga K "Net") 4 ["self", "many", "wires"] (spNetInit K) := by
  refine kdef (st := dNetInit) (q := "Net.__init__") T (by unfold fn defs1; simp) (by unfold faC; simp) (by unfold faG; simp) sc_netInit (fun vs H Q E h => ?_) (fun _ _ _ _ _ _ us hl => match us, hl with | [_, _, _], _ => rfl) (fun f cdv A outer s H vs Q E ec hr h => ?_)
  · obtain ⟨H0, o, dx, W0, n, rs, rows, rfl, _⟩ := h
    rfl
  · obtain ⟨H0, o, dx, W0, n, rs, rows, rfl, s0, o0, ho, hW, hT, ok, tt, k⟩ := h
    have nd := sc_netInit.nd
    have htf : (("Net", some "__init__") : He.Defn) ∈ tf := by unfold tf; simp
    have hTB := TB _ htf
    refine ⟨_, pss_cons (ps_if (PW.pt (pw_or (pt_cmpR op_lt (pv 1) pe_int (nomark _)) (pw_or (pt_cmpR op_eq (pe_op op_mod (pv 1) pe_int) pe_int (nomark _)) (pw_or1 (pt_cmpR op_lt (pe_callB call_len_seq (by rfl) T.len PySem.boot_len (pa_cons (pv 2) pa_nil)) pe_int (nomark _)))))) (pss_one ps_never) pss_nil)
      (pss_cons (ps_fld (pv 0) (pv 1) rfl)
      (pss_cons (ps_fld (pv 0) (pe_lc (own := [("row", 3)]) (g := gName 3) (tt := tYes) rfl nd (pi_list (pv 2)) (blkOk_by (N := ["self", "many", "wires", "row"]) (sc := defScope dNetInit) (own := [("row", 3)]) (by decide +kernel))
          (fun _ _ _ _ _ => pg_name (i := 3) nd rfl (Or.inl rfl)) (fun _ _ _ _ _ => pts_nil) (fun _ _ _ _ _ => pe_g C (hr.mono (by decide)) (by rfl) (pa_cons (pv 3) (pa_cons (pv 1) pa_nil)))) rfl)
      (pss_one (ps_if (pt_val (pe_any (own := [("row", 3)]) (k := 1) (hr.mono (by decide)) (by rfl) T.any hTB ec rfl nd (blkOk_by (N := ["self", "many", "wires", "row"]) (sc := defScope dNetInit) (own := [("row", 3)]) (by decide +kernel)) (by decide +kernel) rfl rfl (pi_list (pe_fld (pv 0) rfl)) (by intro _; rfl)
          (segL1 (vs := [3]) (k := 1) rfl (fun _ _ _ _ _ _ => pg_name (i := 3) nd rfl (Or.inl rfl)) (fun _ _ _ _ _ _ hr2 => pe_not (pe_g F hr2 (by rfl) (pa_cons (pv 3) pa_nil))))))
        (pss_one ps_never) pss_nil)))), ?_⟩
    have lenW : (rs.map V.ref).length = rows.length := by rw [List.length_map, hT.length, List.length_map]
    refine ⟨_, rfl, _, _, rfl, rfl, _, rfl, iteDF (by have := ok.two; omega) ?_⟩
    refine ⟨_, rfl, _, _, rfl, rfl, (by show (0 : Int) < 2; decide), rfl, _, rfl, iteDF (fun z => ?_) ?_⟩
    · have z1 := V.int.inj z
      have := ok.even
      omega
    refine ⟨_, rfl, _, _, rfl, .inl (SqL.of (s0 _ _ hW)), _, _, rfl, rfl, _, rfl, iteDF (by rw [lenW]; have := ok.len; omega) ?_⟩
    refine ⟨_, rfl, _, rfl, o, _, dx, [], rfl, ho, T.net, T.nMany, (by show 0 < 1000; decide), ?_⟩
    have s1 := Same.up (o := .ins (He.ga K "Net") dx (putF "many" (nv n) [])) s0 o0
    generalize hH1 : upd H o (.ins (He.ga K "Net") dx (putF "many" (nv n) [])) = H1 at *
    have ho1 : H1 o = some (.ins (He.ga K "Net") dx (putF "many" (nv n) [])) := by rw [← hH1, upd_same]
    refine ⟨_, rfl, W0, rfl, ⟨_, SqL.of (s1 _ _ hW)⟩, fun D nD => ?_⟩
    have nDo : o ≠ D := ne_of_none ho1 nD
    refine lc_it walk_list (LcP H1 D fun i => (rs.take i).map V.ref) (lc_start nD rfl) (fun i H2 _ p => SqL.of (p.1 _ _ (s1 _ _ hW))) (fun i x H2 H3 hi p y => ?_) (fun H2 p => ?_)
    · obtain ⟨rfl, hx⟩ := y
      obtain ⟨t, ht, rfl⟩ := ref_get hx
      obtain ⟨r, hr1, hr2⟩ := hT.row ht
      obtain ⟨q, hq, rfl⟩ := rows_get hr1
      have Fq : Full q n := ok.full q (List.mem_of_getElem? hq)
      refine ⟨rfl, tyes ?_⟩
      refine ⟨_, rfl, _, rfl, t, q.map some, n, rfl, by rw [map_some_ov]; exact p.1 _ _ (s1 _ _ hr2), Fq.valid, ok.hun, (tt.same s1).same p.1, fun H' s' => ?_⟩
      refine lc_put nD p s' ?_ ?_
      · rw [List.take_add_one, ht, List.map_append]; rfl
      · have := ok.len2
        rw [List.length_map, List.length_take]
        omega
    · have hD : H2 D = some (.lst (rs.map V.ref)) := by
        refine p.2.trans ?_
        show some (HO.lst ((rs.take (rs.map V.ref).length).map V.ref)) = _
        rw [List.length_map, List.take_length]
      have s2 := p.1
      refine ⟨_, rfl, o, _, dx, _, rfl, s2 _ _ ho1, T.net, T.nWires, (by show 1 < 1000; decide), ?_⟩
      have e1 : putF "wires" (.ref D) (putF "many" (nv n) []) = netF n D := rfl
      rw [e1]
      have nDH0 : H0 D = none := s1.free nD
      have hoD : D ≠ o := Ne.symm nDo
      have s3 : Same H0 (upd H2 o (.ins (He.ga K "Net") dx (netF n D))) := Same.up (s1.trans s2) o0
      generalize hH3 : upd H2 o (.ins (He.ga K "Net") dx (netF n D)) = H3 at *
      have ho3 : H3 o = some (.ins (He.ga K "Net") dx (netF n D)) := by rw [← hH3, upd_same]
      have hD3 : H3 D = some (.lst (rs.map V.ref)) := by rw [← hH3, upd_ne hoD]; exact hD
      refine ⟨_, rfl, o, _, dx, _, _, rfl, ho3, T.net, T.nWires, nF_wires, D, rfl, ⟨_, SqL.of hD3⟩, tt.same s3 _ htf, anyF_list (SqL.of hD3) (fun i x hx => ?_) ?_⟩
      · obtain ⟨t, ht, rfl⟩ := ref_get hx
        obtain ⟨r, hr1, hr2⟩ := hT.row ht
        obtain ⟨q, hq, rfl⟩ := rows_get hr1
        exact ⟨rfl, _, rfl, t, q, rfl, s3 _ _ hr2, _, rfl, rfl, rfl⟩
      · refine ⟨_, rfl, iteF ?_⟩
        exact k H3 s3 ⟨dx, D, rs, ho3, hD3, hT.same s3⟩
end
end Ck
/-! ## text K61I -/
set_option Elab.async false
set_option linter.all false
set_option maxRecDepth 100000
set_option maxHeartbeats 4000000
namespace Ck
open PySem PySem.Spec PyProof.Rows L2
/-! ### settings -/
def ListsAt (H : Hp) (ts : List Addr) (rows : List (List V)) : Prop := Paired (fun t r => H t = some (.lst r)) ts rows
theorem ListsAt.same {H H' : Hp} {ts : List Addr} {rows : List (List V)} (t : ListsAt H ts rows) (s : Same H H') : ListsAt H' ts rows := Paired.mapP t fun _ _ e => s _ _ e
theorem ListsAt.length {H : Hp} {ts : List Addr} {rows : List (List V)} (t : ListsAt H ts rows) : ts.length = rows.length := Paired.length t
theorem ListsAt.row {H : Hp} {ts : List Addr} {rows : List (List V)} {i : Nat} {t : Addr} (T : ListsAt H ts rows) (h : ts[i]? = some t) : ∃ r, rows[i]? = some r ∧ H t = some (.lst r) := paired_get T h
def SetAt (H : Hp) (S : Addr) (ss : List (List Nat)) : Prop := ∃ rs : List Addr, H S = some (.lst (rs.map V.ref)) ∧ ListsAt H rs (ss.map fun r => r.map nv)
theorem SetAt.same {H H' : Hp} {S : Addr} {ss : List (List Nat)} (t : SetAt H S ss) (s : Same H H') : SetAt H' S ss := by
  obtain ⟨rs, h1, h2⟩ := t
  exact ⟨rs, s _ _ h1, h2.same s⟩
structure SetOk (n L : Nat) (ss : List (List Nat)) : Prop where
  len : ss.length + 1 = L
  half : ∀ r ∈ ss, r.length = n / 2
  bits : ∀ r ∈ ss, ∀ b ∈ r, b = 0 ∨ b = 1
def rLenS (K : PySem.W.Frag) : List V → Hp → VK → Prop := fun xs H Q => ∃ p ys, xs = [V.ref p] ∧ (SqL K H p ys ∨ SqT K H p ys) ∧ Q (V.int ((ys.length : Nat) : Int)) H
theorem call_lenS {X : Cx} : CallR X (.builtin "len") (rLenS X.K) := call_len_seq
theorem atI_nat {α : Type} {xs : List α} {k : Nat} {v : α} (h : xs[k]? = some v) : atI xs (k : Int) = some v := by
  have hk : k < xs.length := (List.getElem?_eq_some_iff.mp h).1
  unfold atI
  rw [ixN_nat hk]
  exact h
theorem in01 {b : Nat} (h : b = 0 ∨ b = 1) : inV (nv b) [V.int 0, V.int 1] = true := by
  rcases h with rfl | rfl <;> rfl
section
variable {P : Program} {w : World} {K : PySem.W.Frag} {mg : Str → Option Value} {base : Heap}
/-! ### Net.stages -/
def spStages (K : PySem.W.Frag) : Sp := fun vs H Q _ => ∃ (o : Addr) (n : Nat) (rows : List (List Nat)), vs = [.ref o] ∧ NetAt K H o n rows ∧ 1 ≤ rows.length ∧ Q (nv (rows.length - 1)) H
theorem sc_netStages : FnScope ["self"] ["self"] (defScope dNetStages) := ⟨rfl, rfl, rfl, by decide +kernel, rfl, by decide +kernel, by decide +kernel⟩
theorem m_stages (T : Tx K mg) : MDef P w K mg base (He.ga K "Net") "stages" 1 ["self"] (spStages K) := by
  refine mdef (st := dNetStages) (q := "Net.stages") T (by unfold fn defs1; simp) (by unfold faC; simp) sc_netStages (fun vs H Q E h => ?_) (fun _ _ _ _ _ _ us hl => match us, hl with | [_], _ => rfl) (fun f cdv A outer s H vs Q E ec hr h => ?_)
  · obtain ⟨o, n, rows, rfl, _⟩ := h
    rfl
  · obtain ⟨o, n, rows, rfl, N, h1, k⟩ := h
    obtain ⟨dx, W, rs, ho, hW, hT⟩ := N
    refine ⟨_, pss_one (ps_ret (pe_op op_sub (pe_callB call_len_seq (by rfl) T.len PySem.boot_len (pa_cons (pe_fld (pv 0) rfl) pa_nil)) pe_int)), ?_⟩
    refine ⟨_, rfl, o, _, dx, _, _, rfl, ho, T.net, T.nWires, nF_wires, W, _, rfl, .inl (SqL.of hW), _, _, rfl, rfl, ?_⟩
    have e : V.int ((((rs.map V.ref).length : Nat) : Int) - 1) = nv (rows.length - 1) := by
      rw [List.length_map, hT.length, List.length_map]
      show V.int _ = V.int _
      congr 1
      omega
    show Q (V.int ((((rs.map V.ref).length : Nat) : Int) - 1)) H
    rw [e]
    exact k
/-! ### Net.check -/
def spNetCheck (K : PySem.W.Frag) : Sp := fun vs H Q _ => ∃ (o S : Addr) (n : Nat) (rows ss : List (List Nat)), vs = [.ref o, .ref S] ∧ NetAt K H o n rows ∧ NetOk n rows ∧ SetAt H S ss ∧ SetOk n rows.length ss ∧ TT K H ∧ ∀ H', Same H H' → Q (.ref S) H'
theorem sc_netCheck : FnScope ["self", "settings", "row", "one"] ["self", "settings"] (defScope dNetCheck) := ⟨rfl, rfl, rfl, by decide +kernel, rfl, by decide +kernel, by decide +kernel⟩
theorem m_check (T : Tx K mg) (TB : TBs K mg base) (MS : MDef P w K mg base (He.ga K "Net") "stages" 1 ["self"] (spStages K)) : MDef P w K mg base (He.ga K "Net") "check" 3 ["self", "settings"] (spNetCheck K) := by
  refine mdef (st := dNetCheck) (q := "Net.check") T (by unfold fn defs1; simp) (by unfold faC; simp) sc_netCheck (fun vs H Q E h => ?_) (fun _ _ _ _ _ _ us hl => match us, hl with | [_, _], _ => rfl) (fun f cdv A outer s H vs Q E ec hr h => ?_)
  · obtain ⟨o, S, n, rows, ss, rfl, _⟩ := h
    rfl
  · obtain ⟨o, S, n, rows, ss, rfl, N, ok, hS, so, tt, k⟩ := h
    have nd := sc_netCheck.nd
    have htf : (("Net", some "check") : He.Defn) ∈ tf := by unfold tf; simp
    have hTB := TB _ htf
    refine ⟨_, pss_cons (ps_if (PW.pt (pw_or (pt_cmpR op_ne (pe_callB call_len_seq (by rfl) T.len PySem.boot_len (pa_cons (pv 1) pa_nil)) (pe_m0 MS T.net (hr.mono (by decide)) (pv 0)) (nomark _))
        (pw_or1 (pt_val (pe_any (own := [("row", 2)]) (k := 0) (hr.mono (by decide)) (by rfl) T.any hTB ec rfl nd (blkOk_by (N := ["self", "settings", "row", "one"]) (sc := defScope dNetCheck) (own := [("row", 2)]) (by decide +kernel)) (by decide +kernel) rfl rfl (pi_list (pv 1)) (by intro _; rfl)
          (segL1 (vs := [2]) (k := 0) rfl (fun _ _ _ _ _ _ => pg_name (i := 2) nd rfl (Or.inl rfl))
            (fun _ _ _ _ _ _ hr2 => pe_cmpR (ta := tCB (rLenS K) (tCons (tVar 2) tNil)) (tb := tOp (rI CDiv fun i j => .int (i / j)) (tFld K (tVar 0) "many") (tC (.int 2))) op_ne (pe_callB call_lenS (by rfl) T.len PySem.boot_len (pa_cons (pv 2) pa_nil)) (pe_op op_fdiv (pe_fld (pv 0) rfl) pe_int) (nomark _))))))))
        (pss_one ps_never) pss_nil)
      (pss_cons (ps_if (pt_val (pe_any (own := [("row", 2), ("one", 3)]) (k := 0) (hr.mono (by decide)) (by rfl) T.any hTB ec rfl nd (blkOk_by (N := ["self", "settings", "row", "one"]) (sc := defScope dNetCheck) (own := [("row", 2), ("one", 3)]) (by decide +kernel)) (by decide +kernel) rfl rfl (pi_list (pv 1)) (by intro _; rfl)
          (segL2 (vs := [2, 3]) (vs1 := [3]) (k := 0) (wi1 := iList K (tVar 2)) rfl (fun _ _ _ _ _ _ => pg_name (i := 2) nd rfl (Or.inl rfl)) (fun _ _ _ _ _ _ => pi_list (pv 2)) (by intro _ _; rfl) (fun _ _ _ _ _ _ => pg_name (i := 3) nd rfl (Or.inl rfl))
            (fun _ _ _ _ _ _ hr2 => pe_cmpR (r := rIn K true) op_notIn_seq (pv 3) (pe_tup (pa_cons pe_int (pa_cons pe_int pa_nil))) (by rfl)))))
        (pss_one ps_never) pss_nil)
      (pss_one (ps_ret (pv 1)))), ?_⟩
    obtain ⟨dx, W, rs, ho, hW, hT⟩ := id N
    obtain ⟨qs, hQ, hL⟩ := id hS
    have lq : qs.length = ss.length := by rw [hL.length, List.length_map]
    have htt := tt _ htf
    refine ⟨_, rfl, S, _, rfl, .inl (SqL.of hQ), _, rfl, o, dx, netF n W, rfl, ho, nF_stages, o, n, rows, rfl, N, by have := ok.len; omega, rfl, _, rfl, ?_⟩
    refine iteNS (by rw [List.length_map, lq]; congr 1; have := so.len; omega) ?_
    refine ⟨_, rfl, S, rfl, ⟨_, SqL.of hQ⟩, htt, anyF_list (SqL.of hQ) (fun i x hx => ?_) ?_⟩
    · obtain ⟨t, ht, rfl⟩ := ref_get hx
      obtain ⟨r, hr1, hr2⟩ := hL.row ht
      obtain ⟨q, hq, rfl⟩ := rows_get hr1
      have hlen := so.half q (List.mem_of_getElem? hq)
      refine ⟨rfl, _, rfl, t, _, rfl, .inl (SqL.of hr2), _, rfl, o, _, dx, _, _, rfl, ho, T.net, T.nMany, nF_many, _, _, rfl, rfl, ⟨by decide, by decide⟩, rfl, ?_⟩
      refine ⟨?_, rfl⟩
      rw [List.length_map, hlen]
      have e : (V.int ((n / 2 : Nat) : Int)) = V.int ((n : Int) / 2) := by congr 1
      rw [e]
      simp
    · refine ⟨_, rfl, iteF ?_⟩
      refine ⟨_, rfl, S, rfl, ⟨_, SqL.of hQ⟩, htt, ?_⟩
      have hh : n / 2 ≤ 100 := by have := ok.hun; omega
      refine ⟨fun i m H' => Same H H' ∧ i ≤ ss.length ∧ m = (ss.length - i) * 200, ⟨ss.length * 200, Same.refl _, Nat.zero_le _, rfl⟩, ?_⟩
      rintro i m H1 ⟨s1, hi, rfl⟩
      by_cases hlt : i < ss.length
      · have hq1 : qs[i]? = some qs[i] := List.getElem?_eq_getElem (by omega)
        have hq2 : (qs.map V.ref)[i]? = some (.ref qs[i]) := by rw [List.getElem?_map, hq1]; rfl
        obtain ⟨r, hr1, hr2⟩ := hL.row hq1
        obtain ⟨q, hq, rfl⟩ := rows_get hr1
        have hmem := List.mem_of_getElem? hq
        have hlen := so.half q hmem
        refine .inr ⟨⟨_, _, SqL.of (s1 _ _ hQ), hq2⟩, fun k H' => Same H H' ∧ k = (ss.length - (i + 1)) * 200, fun k H' p => ⟨_, by rw [p.2]; exact Nat.le_refl _, p.1, hlt, rfl⟩, fun x H2 hy => ?_⟩
        obtain ⟨rfl, fv⟩ := hy
        obtain rfl : V.ref qs[i] = x := by
          have := fv _ (SqL.of (s1 _ _ hQ))
          rw [hq2] at this
          exact Option.some.inj this
        refine ⟨rfl, rfl, _, rfl, qs[i], rfl, ⟨_, SqL.of (s1 _ _ hr2)⟩, ?_⟩
        refine ⟨fun j k H' => Same H H' ∧ j ≤ q.length ∧ k = (ss.length - (i + 1)) * 200 + (q.length - j), ⟨_, ?_, s1, Nat.zero_le _, rfl⟩, ?_⟩
        · omega
        · rintro j k H3 ⟨s3, hj, rfl⟩
          by_cases hjl : j < q.length
          · refine .inr ⟨⟨_, _, SqL.of (s3 _ _ hr2), nv_get hjl⟩, fun H' => Same H H', fun H' p => ⟨(ss.length - (i + 1)) * 200 + (q.length - (j + 1)), by omega, p, hjl, rfl⟩, fun y H4 hy => ?_⟩
            obtain ⟨rfl, fv⟩ := hy
            obtain ⟨_, rfl⟩ := nv_get' (fv _ (SqL.of (s3 _ _ hr2)))
            refine ⟨rfl, _, rfl, by decide, fun p np => ?_⟩
            refine ⟨p, _, rfl, .inr (SqT.of upd_same), rfl, rfl, ?_, s3.trans (same_upd np)⟩
            rw [if_pos rfl, in01 (so.bits q hmem _ (List.getElem_mem hjl))]
            rfl
          · refine .inl ⟨⟨_, SqL.of (s3 _ _ hr2), by rw [List.length_map]; omega⟩, s3, ?_⟩
            have : q.length - j = 0 := by omega
            omega
      · refine .inl ⟨⟨_, SqL.of (s1 _ _ hQ), by rw [List.length_map]; omega⟩, ?_⟩
        refine ⟨_, rfl, iteF ⟨_, rfl, ?_⟩⟩
        exact k _ s1
end
end Ck
/-! ## text K61J -/
set_option Elab.async false
set_option linter.all false
set_option maxRecDepth 100000
set_option maxHeartbeats 4000000
namespace Ck
open PySem PySem.Spec PyProof.Rows L2
/-- arithmetic whose value is told by an equation -/
def rE (f : Int → Int → Int) : R2 := fun x y H Q => ∃ i j v, x = .int i ∧ y = .int j ∧ V.int (f i j) = v ∧ Q v H
theorem op_addE {X : Cx} : OpR X (binaryOp .Add) (rE fun i j => i + j) := fun pins s σ H x y v u Q I rx ry h => by
  obtain ⟨i, j, z, e1, e2, rfl, q⟩ := h
  exact op_add pins s σ H x y v u Q I rx ry ⟨i, j, e1, e2, q⟩
theorem op_subE {X : Cx} : OpR X (binaryOp .Sub) (rE fun i j => i - j) := fun pins s σ H x y v u Q I rx ry h => by
  obtain ⟨i, j, z, e1, e2, rfl, q⟩ := h
  exact op_sub pins s σ H x y v u Q I rx ry ⟨i, j, e1, e2, q⟩
def rEC (C : Int → Int → Prop) (f : Int → Int → Int) : R2 := fun x y H Q => ∃ i j v, x = .int i ∧ y = .int j ∧ C i j ∧ V.int (f i j) = v ∧ Q v H
theorem op_mulE {X : Cx} : OpR X (binaryOp .Mult) (rEC CMul fun i j => i * j) := fun pins s σ H x y v u Q I rx ry h => by
  obtain ⟨i, j, z, e1, e2, c, rfl, q⟩ := h
  exact op_mul pins s σ H x y v u Q I rx ry ⟨i, j, e1, e2, c, q⟩
theorem op_fdivE {X : Cx} : OpR X (binaryOp .FloorDiv) (rEC CDiv fun i j => i / j) := fun pins s σ H x y v u Q I rx ry h => by
  obtain ⟨i, j, z, e1, e2, c, rfl, q⟩ := h
  exact op_fdiv pins s σ H x y v u Q I rx ry ⟨i, j, e1, e2, c, q⟩
/-! ### Net.way -/
def crs (b p : Nat) : Nat := if b = 1 then pt p else p
def wayP (rows ss : List (List Nat)) (g : Nat) : Nat → Nat
  | 0 => at0 (rows.getD 0 []) g
  | i + 1 => at0 (rows.getD (i + 1) []) (crs (at0 (ss.getD i []) (wayP rows ss g i / 2)) (wayP rows ss g i))
def wayL (rows ss : List (List Nat)) (g : Nat) : List Nat := (List.range (ss.length + 1)).map (wayP rows ss g)
theorem getD_mem {rows : List (List Nat)} {i : Nat} (h : i < rows.length) : rows.getD i [] ∈ rows := by
  rw [List.getD_eq_getElem?_getD, List.getElem?_eq_getElem h]
  exact List.getElem_mem h
theorem getD_get {rows : List (List Nat)} {i : Nat} (h : i < rows.length) : rows[i]? = some (rows.getD i []) := by
  rw [List.getD_eq_getElem?_getD, List.getElem?_eq_getElem h]
  rfl
theorem crs_lt {b p n : Nat} (h : p < n) (e : n % 2 = 0) : crs b p < n := by
  unfold crs
  split
  · exact pt_lt h e
  · exact h
theorem wayP_lt {n : Nat} {rows ss : List (List Nat)} (ok : NetOk n rows) {g : Nat} (hg : g < n) : ∀ i, i < rows.length → wayP rows ss g i < n
  | 0, h => (ok.full _ (getD_mem h)).at_lt hg
  | i + 1, h => (ok.full _ (getD_mem h)).at_lt (crs_lt (wayP_lt ok hg i (by omega)) ok.even)
section
variable {P : Program} {w : World} {K : PySem.W.Frag} {mg : Str → Option Value} {base : Heap}
theorem NetAt.row {H : Hp} {o : Addr} {n : Nat} {rows : List (List Nat)} (N : NetAt K H o n rows) {i : Nat} (hi : i < rows.length) : ∃ (dx W : Addr) (rs : List Addr) (t : Addr), H o = some (.ins (He.ga K "Net") dx (netF n W)) ∧ H W = some (.lst (rs.map V.ref)) ∧
    atI (rs.map V.ref) (i : Int) = some (.ref t) ∧ H t = some (.tup ((rows.getD i []).map nv)) := by
  obtain ⟨dx, W, rs, h1, h2, h3⟩ := N
  have hr : (rows.map fun r => r.map nv)[i]? = some ((rows.getD i []).map nv) := by rw [List.getElem?_map, getD_get hi]; rfl
  obtain ⟨t, ht, e⟩ := h3.get hr
  exact ⟨dx, W, rs, t, h1, h2, atI_nat (by rw [List.getElem?_map, ht]; rfl), e⟩
theorem at_nv {fs : List Nat} {i : Nat} (h : i < fs.length) : atI (fs.map nv) (i : Int) = some (nv (at0 fs i)) := atI_nat (by rw [List.getElem?_map, at0_get h]; rfl)
def spWay (K : PySem.W.Frag) : Sp := fun vs H Q _ => ∃ (o S : Addr) (n g : Nat) (rows ss : List (List Nat)), vs = [.ref o, .ref S, nv g] ∧ g < n ∧ NetAt K H o n rows ∧ NetOk n rows ∧ SetAt H S ss ∧ SetOk n rows.length ss ∧ TT K H ∧
  ∀ p H', Same H H' → H p = none → H' p = some (.tup ((wayL rows ss g).map nv)) → Q (.ref p) H'
theorem sc_netWay : FnScope ["self", "settings", "gate", "place", "found", "stage", "row"] ["self", "settings", "gate"] (defScope dNetWay) := ⟨rfl, rfl, rfl, by decide +kernel, rfl, by decide +kernel, by decide +kernel⟩
theorem m_way (T : Tx K mg) (MC : MDef P w K mg base (He.ga K "Net") "check" 3 ["self", "settings"] (spNetCheck K)) : MDef P w K mg base (He.ga K "Net") "way" 4 ["self", "settings", "gate"] (spWay K) := by
  refine mdef (st := dNetWay) (q := "Net.way") T (by unfold fn defs1; simp) (by unfold faC; simp) sc_netWay (fun vs H Q E h => ?_) (fun _ _ _ _ _ _ us hl => match us, hl with | [_, _, _], _ => rfl) (fun f cdv A outer s H vs Q E ec hr h => ?_)
  · obtain ⟨o, S, n, g, rows, ss, rfl, _⟩ := h
    rfl
  · obtain ⟨o, S, n, g, rows, ss, rfl, hg, N, ok, hS, so, tt, k⟩ := h
    have nd := sc_netWay.nd
    refine ⟨_, pss_cons (ps_expr (pe_m MC T.net (hr.mono (by decide)) (pv 0) (pa_cons (pv 1) pa_nil)))
      (pss_cons (ps_set (i := 3) nd rfl (.inl rfl) (pe_ix ix_seq (pe_ix ix_seq (pe_fld (pv 0) rfl) pe_int (fun _ _ => rfl)) (pv 2) (fun _ _ => rfl)))
      (pss_cons (ps_set (i := 4) nd rfl (.inl rfl) (pe_lst (pa_cons (pv 3) pa_nil)))
      (pss_cons (ps_for PassesOwn.never rfl (pi_enum (by rfl) T.enumerate (pa_cons (pv 1) pa_nil)) (pg_tup rfl (pgs_cons (pg_name (i := 5) nd rfl (Or.inl rfl)) (pgs_cons (pg_name (i := 6) nd rfl (Or.inl rfl)) pgs_nil)))
        (pss_cons (ps_if (pt_cmpR op_eq (pe_ix ix_seq (pv 6) (pe_op op_fdiv (pv 3) pe_int) (fun _ _ => rfl)) pe_int (nomark _))
            (pss_one (ps_set (i := 3) nd rfl (.inl rfl) (pe_op op_subE (pe_op op_add (pv 3) pe_int) (pe_op op_mul pe_int (pe_op op_mod (pv 3) pe_int))))) pss_nil)
        (pss_cons (ps_set (i := 3) nd rfl (.inl rfl) (pe_ix ix_seq (pe_ix ix_seq (pe_fld (pv 0) rfl) (pe_op op_add (pv 5) pe_int) (fun _ _ => rfl)) (pv 3) (fun _ _ => rfl)))
        (pss_one (ps_expr (pe_bm PySem.F.plainAttrs_list PySem.F.slot_list_append PySem.F.type_list_append mt_append (pv 4) (pa_cons (pv 3) pa_nil)))))))
      (pss_one (ps_ret (pe_tupleOf (by rfl) T.tuple (pv 4))))))), ?_⟩
    have L0 : 0 < rows.length := by have := ok.len; omega
    obtain ⟨dx, W, rs, t0, ho, hW, ha0, ht0⟩ := N.row L0
    have F0 : Full (rows.getD 0 []) n := ok.full _ (getD_mem L0)
    refine ⟨_, rfl, o, dx, netF n W, rfl, ho, nF_check, _, rfl, o, S, n, rows, ss, rfl, N, ok, hS, so, tt, fun H1 s1 => ?_⟩
    refine ⟨_, rfl, o, _, dx, _, _, rfl, s1 _ _ ho, T.net, T.nWires, nF_wires, .inl ⟨W, _, _, _, rfl, rfl, SqL.of (s1 _ _ hW), ha0, _, rfl, .inr (.inl ⟨t0, _, _, _, rfl, rfl, SqT.of (s1 _ _ ht0), at_nv (by rw [F0.len]; exact hg), ?_⟩)⟩⟩
    refine ⟨_, rfl, (show 1 ≤ sizeLine by decide), fun Fd nF => ?_⟩
    have nFH : H Fd = none := s1.free nF
    obtain ⟨qs, hQ, hL⟩ := id hS
    have lq : (qs.map V.ref).length = ss.length := by rw [List.length_map, hL.length, List.length_map]
    refine ⟨_, rfl, S, _, rfl, SqL.of ((s1.trans (same_upd nF)) _ _ hQ), ?_⟩
    refine for_it walk_enum (fun i σ H2 => (∃ x y, σ = [some (.ref o), some (.ref S), some (nv g), some (nv (wayP rows ss g i)), some (.ref Fd), x, y]) ∧ Same H H2 ∧ H2 Fd = some (.lst (((List.range (i + 1)).map (wayP rows ss g)).map nv)))
      ⟨⟨_, _, rfl⟩, s1.trans (same_upd nF), upd_same⟩ (fun i σ H2 _ p => SqL.of (p.2.1 _ _ hQ)) (fun i x σ H2 H3 hi p y => ?_) (fun σ H2 p => ?_)
    · obtain ⟨⟨x0, y0, rfl⟩, s2, hF⟩ := p
      obtain ⟨t, u, v, rfl, nt, rfl, e1, e2⟩ := y
      obtain rfl : V.int (i : Nat) = u := Option.some.inj e1
      obtain ⟨q, hq, rfl⟩ := ref_get e2
      rw [lq] at hi
      have ho2 := so.len
      obtain ⟨r, hr1, hr2⟩ := hL.row hq
      obtain ⟨bs, hb, rfl⟩ := rows_get hr1
      have hbs : ss.getD i [] = bs := by
        have := getD_get hi
        rw [hb] at this
        exact (Option.some.inj this).symm
      have hlen := so.half bs (List.mem_of_getElem? hb)
      have pl : wayP rows ss g i < n := wayP_lt ok hg i (by omega)
      have s3 : Same H (upd H2 t (.tup [V.int (i : Nat), .ref q])) := s2.trans (same_upd nt)
      have tF : Fd ≠ t := ne_of_none hF nt
      refine ⟨t, _, rfl, SqT.of upd_same, rfl, _, _, rfl, _, _, rfl, rfl, ?_⟩
      have ev : V.int ((wayP rows ss g i : Int) / 2) = V.int ((wayP rows ss g i / 2 : Nat) : Int) := by push_cast; rfl
      refine ⟨_, rfl, _, rfl, _, _, rfl, rfl, ⟨by decide, by decide⟩, .inl ⟨q, _, _, nv (at0 bs (wayP rows ss g i / 2)), rfl, rfl, SqL.of (s3 _ _ hr2), ?_, rfl, _, rfl, ?_⟩⟩
      · have := at_nv (fs := bs) (i := wayP rows ss g i / 2) (by have := ok.even; omega)
        push_cast at this
        exact this
      · have hw : wayP rows ss g (i + 1) = at0 (rows.getD (i + 1) []) (crs (at0 bs (wayP rows ss g i / 2)) (wayP rows ss g i)) := by rw [← hbs]; rfl
        have cl : crs (at0 bs (wayP rows ss g i / 2)) (wayP rows ss g i) < n := crs_lt pl ok.even
        generalize hcr : crs (at0 bs (wayP rows ss g i / 2)) (wayP rows ss g i) = cr at *
        have hc2 : (if at0 bs (wayP rows ss g i / 2) = 1 then pt (wayP rows ss g i) else wayP rows ss g i) = cr := hcr
        have L1 : i + 1 < rows.length := by omega
        obtain ⟨dx, W, rs, t1, ho, hW, ha1, ht1⟩ := N.row L1
        have F1 : Full (rows.getD (i + 1) []) n := ok.full _ (getD_mem L1)
        have hF3 : upd H2 t (.tup [V.int (i : Nat), .ref q]) Fd = some (.lst (((List.range (i + 1)).map (wayP rows ss g)).map nv)) := by rw [upd_ne tF]; exact hF
        have e1 : ((i : Nat) : Int) + 1 = ((i + 1 : Nat) : Int) := by push_cast; rfl
        have fin : Same H (upd (upd H2 t (.tup [V.int (i : Nat), .ref q])) Fd (.lst (((List.range (i + 1)).map (wayP rows ss g)).map nv ++ [nv (wayP rows ss g (i + 1))]))) := Same.up s3 nFH
        have fin2 : upd (upd H2 t (.tup [V.int (i : Nat), .ref q])) Fd (.lst (((List.range (i + 1)).map (wayP rows ss g)).map nv ++ [nv (wayP rows ss g (i + 1))])) Fd = some (.lst (((List.range (i + 1 + 1)).map (wayP rows ss g)).map nv)) := by
          rw [upd_same, rmap_succ _ (i + 1), List.map_append]; rfl
        have sz : (((List.range (i + 1)).map (wayP rows ss g)).map nv).length < sizeLine := small (by rw [List.length_map, List.length_map, List.length_range]; have := ok.len2; omega)
        by_cases c : at0 bs (wayP rows ss g i / 2) = 1
        · rw [if_pos c] at hc2
          refine iteD (by rw [c]; rfl) ?_
          have e2 : V.int ((wayP rows ss g i : Int) + 1 - 2 * ((wayP rows ss g i : Int) % 2)) = nv cr := by rw [pt_int, hc2]; rfl
          refine ⟨_, rfl, _, _, rfl, rfl, _, rfl, _, _, rfl, rfl, (by show (0 : Int) < 2; decide), _, _, rfl, rfl, .inl ⟨by decide, by decide⟩, _, _, _, rfl, rfl, e2, ?_⟩
          refine ⟨_, rfl, o, _, dx, _, _, rfl, s3 _ _ ho, T.net, T.nWires, nF_wires, _, rfl, _, _, rfl, rfl, .inl ⟨W, _, _, _, rfl, rfl, SqL.of (s3 _ _ hW), by rw [e1]; exact ha1, _, rfl, .inr (.inl ⟨t1, _, _, _, rfl, rfl, SqT.of (s3 _ _ ht1), at_nv (by rw [F1.len]; exact cl), ?_⟩)⟩⟩
          rw [← hw]
          exact ⟨_, rfl, .inl ⟨rfl, _, SqL.of hF3⟩, _, rfl, Fd, _, _, rfl, rfl, hF3, sz, ⟨_, _, rfl⟩, fin, fin2⟩
        · rw [if_neg c] at hc2
          refine iteDF (fun z => c (by have z1 := V.int.inj z; omega)) ?_
          refine ⟨_, rfl, o, _, dx, _, _, rfl, s3 _ _ ho, T.net, T.nWires, nF_wires, _, rfl, _, _, rfl, rfl, .inl ⟨W, _, _, _, rfl, rfl, SqL.of (s3 _ _ hW), by rw [e1]; exact ha1, _, rfl, .inr (.inl ⟨t1, _, _, _, rfl, rfl, SqT.of (s3 _ _ ht1), at_nv (by rw [F1.len, hc2]; exact cl), ?_⟩)⟩⟩
          rw [hc2, ← hw]
          exact ⟨_, rfl, .inl ⟨rfl, _, SqL.of hF3⟩, _, rfl, Fd, _, _, rfl, rfl, hF3, sz, ⟨_, _, rfl⟩, fin, fin2⟩
    · obtain ⟨⟨x0, y0, rfl⟩, s2, hF⟩ := p
      rw [lq] at hF
      refine ⟨_, rfl, .inl ⟨Fd, _, rfl, SqL.of hF, fun q nq => ?_⟩⟩
      refine k q _ (s2.trans (same_upd nq)) (s2.free nq) ?_
      rw [upd_same]
      rfl
end
end Ck
/-! ## text K61O -/
set_option Elab.async false
set_option linter.all false
set_option maxRecDepth 100000
set_option maxHeartbeats 4000000
namespace Ck
/-! ### the rows of a net -/
def outN (n : Nat) : List Nat := (List.range n).map fun p => p / 2 + p % 2 * (n / 2)
def dbl (r : List Nat) : List Nat := r ++ r.map (r.length + ·)
def rowsN (n : Nat) (inner : List (List Nat)) : List (List Nat) :=
  [List.range n, (outN n).map (at0 ((inner.map dbl).getD 0 []))] ++ ((inner.map dbl).drop 1).take ((inner.map dbl).length - 2) ++ [((inner.map dbl).getD ((inner.map dbl).length - 1) []).map (at0 (invL (outN n) n)), List.range n]
def netRows : Nat → List (List Nat)
  | 0 => []
  | 1 => [List.range 2, List.range 2]
  | l + 2 => rowsN (2 ^ (l + 2)) (netRows (l + 1))
theorem outN_at {n i : Nat} (h : i < n) : at0 (outN n) i = i / 2 + i % 2 * (n / 2) := at0_map h
theorem outN_len (n : Nat) : (outN n).length = n := by unfold outN; rw [List.length_map, List.length_range]
theorem outN_full {n : Nat} (e : n % 2 = 0) : Full (outN n) n := by
  have key : ∀ i, i < n → (i % 2 = 0 ∧ at0 (outN n) i = i / 2) ∨ (i % 2 = 1 ∧ at0 (outN n) i = i / 2 + n / 2) := by
    intro i h
    rw [outN_at h]
    rcases Nat.mod_two_eq_zero_or_one i with c | c
    · exact .inl ⟨c, by rw [c]; omega⟩
    · exact .inr ⟨c, by rw [c]; omega⟩
  refine Full.of (outN_len n) (fun i h => ?_) fun i j hi hj q => ?_
  · rcases key i h with ⟨a, b⟩ | ⟨a, b⟩ <;> omega
  · rcases key i hi with ⟨a, b⟩ | ⟨a, b⟩ <;> rcases key j hj with ⟨c, d⟩ | ⟨c, d⟩ <;> omega
theorem dbl_len (r : List Nat) : (dbl r).length = 2 * r.length := by
  unfold dbl
  rw [List.length_append, List.length_map]
  omega
theorem dbl_at0 {r : List Nat} {i : Nat} (h : i < r.length) : at0 (dbl r) i = at0 r i := by
  unfold at0 dbl
  rw [List.getD_eq_getElem?_getD, List.getElem?_append_left h, List.getD_eq_getElem?_getD]
theorem dbl_at1 {r : List Nat} {i : Nat} (h : i < r.length) : at0 (dbl r) (r.length + i) = r.length + at0 r i := by
  unfold at0 dbl
  rw [List.getD_eq_getElem?_getD, List.getElem?_append_right (by omega), List.getD_eq_getElem?_getD, List.getElem?_map]
  have e : r.length + i - r.length = i := by omega
  rw [e, List.getElem?_eq_getElem h]
  rfl
theorem dbl_full {r : List Nat} {m : Nat} (F : Full r m) : Full (dbl r) (2 * m) := by
  have key : ∀ i, i < 2 * m → (i < m ∧ at0 (dbl r) i = at0 r i) ∨ (m ≤ i ∧ at0 (dbl r) i = m + at0 r (i - m)) := by
    intro i h
    by_cases c : i < m
    · exact .inl ⟨c, dbl_at0 (by rw [F.len]; exact c)⟩
    · have := dbl_at1 (r := r) (i := i - m) (by rw [F.len]; omega)
      rw [F.len] at this
      rw [show m + (i - m) = i by omega] at this
      exact .inr ⟨by omega, this⟩
  refine Full.of (by rw [dbl_len, F.len]) (fun i h => ?_) fun i j hi hj q => ?_
  · rcases key i h with ⟨a, b⟩ | ⟨a, b⟩
    · have := F.at_lt a; omega
    · have := F.at_lt (i := i - m) (by omega); omega
  · rcases key i hi with ⟨a, b⟩ | ⟨a, b⟩ <;> rcases key j hj with ⟨c, d⟩ | ⟨c, d⟩
    · exact F.inj a c (by rw [← b, ← d, q])
    · have := F.at_lt a; omega
    · have := F.at_lt c; omega
    · have := F.inj (i := i - m) (j := j - m) (by omega) (by omega) (by omega)
      omega
theorem at0_comp {xs ys : List Nat} {i : Nat} (h : i < xs.length) : at0 (xs.map (at0 ys)) i = at0 ys (at0 xs i) := by
  unfold at0
  rw [List.getD_eq_getElem?_getD, List.getElem?_map, List.getElem?_eq_getElem h, List.getD_eq_getElem?_getD, List.getD_eq_getElem?_getD, List.getElem?_eq_getElem h]
  rfl
theorem comp_full {xs ys : List Nat} {n : Nat} (X : Full xs n) (Y : Full ys n) : Full (xs.map (at0 ys)) n := by
  refine Full.of (by rw [List.length_map, X.len]) (fun i h => ?_) fun i j hi hj q => ?_
  · rw [at0_comp (by rw [X.len]; exact h)]
    exact Y.at_lt (X.at_lt h)
  · rw [at0_comp (by rw [X.len]; exact hi), at0_comp (by rw [X.len]; exact hj)] at q
    exact X.inj hi hj (Y.inj (X.at_lt hi) (X.at_lt hj) q)
theorem netRows_len : ∀ l, (netRows (l + 1)).length = 2 * l + 2
  | 0 => rfl
  | l + 1 => by
    have h := netRows_len l
    show (rowsN (2 ^ (l + 2)) (netRows (l + 1))).length = _
    unfold rowsN
    rw [List.length_append, List.length_append, List.length_take, List.length_drop, List.length_map, h]
    show 2 + _ + 2 = _
    omega
theorem netRows_full : ∀ l, ∀ r ∈ netRows (l + 1), Full r (2 ^ (l + 1))
  | 0, r, h => by
    have : r = List.range 2 := by
      have h : r ∈ [List.range 2, List.range 2] := h
      simpa using h
    subst this
    exact full_range 2
  | l + 1, r, h => by
    have ih := netRows_full l
    have hl := netRows_len l
    have e2 : 2 ^ (l + 1 + 1) = 2 * 2 ^ (l + 1) := by rw [Nat.pow_succ]; omega
    have ev : 2 ^ (l + 1 + 1) % 2 = 0 := by omega
    have hd : ∀ r ∈ (netRows (l + 1)).map dbl, Full r (2 ^ (l + 1 + 1)) := by
      intro r hr
      obtain ⟨q, hq, rfl⟩ := List.mem_map.mp hr
      rw [e2]
      exact dbl_full (ih q hq)
    have hg : ∀ i, i < (netRows (l + 1)).length → ((netRows (l + 1)).map dbl).getD i [] ∈ (netRows (l + 1)).map dbl := by
      intro i hi
      rw [List.getD_eq_getElem?_getD, List.getElem?_eq_getElem (by rw [List.length_map]; exact hi)]
      exact List.getElem_mem _
    have h : r ∈ rowsN (2 ^ (l + 2)) (netRows (l + 1)) := h
    unfold rowsN at h
    rcases List.mem_append.mp h with h | h
    · rcases List.mem_append.mp h with h | h
      · rcases List.mem_cons.mp h with rfl | h
        · exact full_range _
        · rw [List.mem_singleton.mp h]
          exact comp_full (outN_full ev) (hd _ (hg 0 (by omega)))
      · exact hd r (List.mem_of_mem_drop (List.mem_of_mem_take h))
    · rcases List.mem_cons.mp h with rfl | h
      · refine comp_full (hd _ ?_) (outN_full ev).inv
        rw [List.length_map]
        exact hg _ (by omega)
      · rw [List.mem_singleton.mp h]
        exact full_range _
end Ck
/-! ## text K61K -/
set_option Elab.async false
set_option linter.all false
set_option maxRecDepth 100000
set_option maxHeartbeats 4000000
namespace Ck
open PySem PySem.Spec PyProof.Rows L2
theorem lcT_put2 {H1 H H4 : Hp} {D p : Addr} {rows : Nat → List (List V)} {i : Nat} {r : List V} (nD : H1 D = none) (q : LcT H1 D rows i H) (s : Same H H4) (hp : H4 p = some (.tup r)) (e : rows (i + 1) = rows i ++ [r]) (hl : (rows i).length ≤ 100) :
    ∃ a, H4 D = some (.lst a) ∧ a.length < sizeLine ∧ LcT H1 D rows (i + 1) (upd H4 D (.lst (a ++ [.ref p]))) := by
  obtain ⟨s0, ts, hD, ht⟩ := q
  have hD' := s _ _ hD
  refine ⟨ts.map V.ref, hD', ?_, Same.up (s0.trans s) nD, ts ++ [p], ?_, ?_⟩
  · rw [List.length_map, ht.length]; exact small hl
  · rw [upd_same, List.map_append]; rfl
  · rw [e]
    exact TupsAt.put (paired_snoc (ht.same s) hp) hD'
theorem paired_drop {α β : Type} {F : α → β → Prop} : ∀ {l1 : List α} {l2 : List β} (n : Nat), Paired F l1 l2 → Paired F (l1.drop n) (l2.drop n)
  | _, _, 0, h => h
  | _, _, _ + 1, .nil => .nil
  | _, _, n + 1, .cons _ t => paired_drop n t
theorem paired_take {α β : Type} {F : α → β → Prop} : ∀ {l1 : List α} {l2 : List β} (n : Nat), Paired F l1 l2 → Paired F (l1.take n) (l2.take n)
  | _, _, 0, _ => .nil
  | _, _, _ + 1, .nil => .nil
  | _, _, n + 1, .cons h t => .cons h (paired_take n t)
theorem paired_app {α β : Type} {F : α → β → Prop} {m1 : List α} {m2 : List β} (h2 : Paired F m1 m2) : ∀ {l1 : List α} {l2 : List β}, Paired F l1 l2 → Paired F (l1 ++ m1) (l2 ++ m2)
  | _, _, .nil => h2
  | _, _, .cons h t => .cons h (paired_app h2 t)
theorem ixN_last {n : Nat} (h : 0 < n) : ixN n (-1) = some (n - 1) := by
  unfold ixN
  rw [if_neg (by decide)]
  split
  · congr 1
    omega
  · omega
theorem atI_last {α : Type} {xs : List α} {v : α} (h0 : 0 < xs.length) (h : xs[xs.length - 1]? = some v) : atI xs (-1) = some v := by
  unfold atI
  rw [ixN_last h0]
  exact h
theorem cut_mid (ts : List Addr) (h : 2 ≤ ts.length) : cutV (ts.map V.ref) (some 1) (some (-1)) = ((ts.drop 1).take (ts.length - 2)).map V.ref := by
  unfold cutV
  have e1 : HT.sIx (ts.map V.ref).length 0 (some 1) = 1 := by
    show (if (1 : Int) < 0 then ((1 : Int) + ((ts.map V.ref).length : Int)).toNat else min (1 : Int).toNat (ts.map V.ref).length) = 1
    rw [if_neg (by decide), List.length_map]
    show min 1 ts.length = 1
    omega
  have e2 : HT.sIx (ts.map V.ref).length (ts.map V.ref).length (some (-1)) = ts.length - 1 := by
    show (if (-1 : Int) < 0 then ((-1 : Int) + ((ts.map V.ref).length : Int)).toNat else min (-1 : Int).toNat (ts.map V.ref).length) = _
    rw [if_pos (by decide), List.length_map]
    omega
  rw [e1, e2, List.map_take, List.map_drop]
  congr 1
section
variable {P : Program} {w : World} {K : PySem.W.Frag} {mg : Str → Option Value} {base : Heap}
/-! ### in_halves -/
def spInHalves : Sp := fun vs H Q _ => ∃ (a : Addr) (fs : List Nat), vs = [.ref a, .ref a] ∧ H a = some (.tup (fs.map nv)) ∧ fs ≠ [] ∧ fs.length ≤ 50 ∧ ∀ p H', Same H H' → H p = none → H' p = some (.tup ((dbl fs).map nv)) → Q (.ref p) H'
theorem sc_inHalves : FnScope ["one", "other", "place"] ["one", "other"] (defScope dInHalves) := ⟨rfl, rfl, rfl, by decide +kernel, rfl, by decide +kernel, by decide +kernel⟩
theorem g_inHalves (T : Tx K mg) : GDef P w K mg base "in_halves" 1 ["one", "other"] spInHalves := by
  refine gdef (st := dInHalves) T (by unfold fn defs1; simp) (by unfold faG; simp) sc_inHalves (fun vs H Q E h => ?_) (fun _ _ _ _ _ _ us hl => match us, hl with | [_, _], _ => rfl) (fun f cdv A outer s H vs Q E ec hr h => ?_)
  · obtain ⟨a, fs, rfl, _⟩ := h
    rfl
  · obtain ⟨a, fs, rfl, ha, ne, hl, k⟩ := h
    have nd := sc_inHalves.nd
    refine ⟨_, pss_one (ps_ret (pe_op op_catT (pe_tupleOf (by rfl) T.tuple (pv 0)) (pe_tupleOf (by rfl) T.tuple (pe_lc (own := [("place", 2)]) (g := gName 2) (tt := tYes) rfl nd (pi_tup (pv 1))
        (blkOk_by (N := ["one", "other", "place"]) (sc := defScope dInHalves) (own := [("place", 2)]) (by decide +kernel)) (fun _ _ _ _ _ => pg_name (i := 2) nd rfl (Or.inl rfl)) (fun _ _ _ _ _ => pts_nil)
        (fun _ _ _ _ _ => pe_op (ta := tCB (rLenS K) (tCons (tVar 0) tNil)) op_addE (pe_callB call_lenS (by rfl) T.len PySem.boot_len (pa_cons (pv 0) pa_nil)) (pv 2)))))), ?_⟩
    refine ⟨_, rfl, .inr ⟨a, _, rfl, SqT.of ha, ?_⟩⟩
    refine ⟨_, rfl, a, rfl, ⟨_, SqT.of ha⟩, fun D nD => ?_⟩
    refine lc_it walk_tup (LcP H D fun i => ((fs.take i).map (fs.length + ·)).map nv) (lc_start nD rfl) (fun i H1 _ p => SqT.of (p.1 _ _ ha)) (fun i x H1 H2 hi p y => ?_) (fun H1 p => ?_)
    · obtain ⟨rfl, hx⟩ := y
      obtain ⟨hi', rfl⟩ := nv_get' hx
      refine ⟨rfl, tyes ?_⟩
      refine ⟨_, rfl, a, _, rfl, .inr (SqT.of (p.1 _ _ ha)), _, rfl, _, _, nv (fs.length + fs[i]), rfl, rfl, ?_, ?_⟩
      · rw [List.length_map]
        show V.int _ = V.int _
        congr 1
      · refine lc_put nD p (Same.refl _) ?_ ?_
        · rw [List.take_add_one, List.getElem?_eq_getElem hi', List.map_append, List.map_append]
          rfl
        · rw [List.length_map, List.length_map, List.length_take]
          omega
    · have hD : H1 D = some (.lst ((fs.map (fs.length + ·)).map nv)) := by
        refine p.2.trans ?_
        show some (HO.lst (((fs.take (fs.map nv).length).map (fs.length + ·)).map nv)) = _
        rw [List.length_map, List.take_length]
      have ne1 : fs.map nv ≠ [] := fun z => ne (List.map_eq_nil_iff.mp z)
      have ne2 : (fs.map (fs.length + ·)).map nv ≠ [] := fun z => ne (List.map_eq_nil_iff.mp (List.map_eq_nil_iff.mp z))
      refine .inl ⟨D, _, rfl, SqL.of hD, fun q nq => ?_⟩
      have s2 := p.1.trans (same_upd (o := .tup ((fs.map (fs.length + ·)).map nv)) nq)
      refine ⟨a, q, _, _, rfl, rfl, SqT.of (s2 _ _ ha), SqT.of upd_same, ne1, ?_, fun z => absurd z ne2, fun _ r nr => ?_⟩
      · rw [List.length_map, List.length_map, List.length_map]
        exact small' (by omega)
      · refine k r _ (s2.trans (same_upd nr)) (s2.free nr) ?_
        rw [upd_same]
        unfold dbl
        rw [List.map_append]
/-! ### net_of -/
theorem outL_outN (n : Nat) : outL n = outN n := rfl
theorem netOk (l : Nat) (h : l ≤ 5) : NetOk (2 ^ (l + 1)) (netRows (l + 1)) := by
  have e2 : 2 ^ (l + 1) = 2 * 2 ^ l := by rw [Nat.pow_succ]; omega
  have h1 : 2 ^ l ≤ 2 ^ 5 := Nat.pow_le_pow_right (by decide) h
  have h0 : 0 < 2 ^ l := Nat.pow_pos (by decide)
  have h3 := netRows_len l
  refine ⟨by omega, by omega, by omega, by omega, by omega, netRows_full l⟩
def spNetOf (K : PySem.W.Frag) (L : Nat) : Sp := fun vs H Q _ => ∃ l : Nat, vs = [nv (2 ^ (l + 1))] ∧ l < L ∧ L ≤ 4 ∧ TT K H ∧ ∀ o H', Same H H' → H o = none → NetAt K H' o (2 ^ (l + 1)) (netRows (l + 1)) → Q (.ref o) H'
theorem sc_netOf : FnScope ["many", "inner", "out", "back", "rows", "first", "last", "row", "place"] ["many"] (defScope dNetOf) := ⟨rfl, rfl, rfl, by decide +kernel, rfl, by decide +kernel, by decide +kernel⟩
theorem g_netOf_step (T : Tx K mg) (KN : KDef P w K mg base "Net" (He.ga K "Net") 4 ["self", "many", "wires"] (spNetInit K)) (GL : GDef P w K mg base "logarithm" 1 ["many"] spLogarithm) (GW : GDef P w K mg base "plain_wires" 1 ["many"] spPlainWires)
    (GP : GDef P w K mg base "parted_wires" 1 ["many"] spPartedWires) (GT : GDef P w K mg base "turned_over" 1 ["pairs"] spTurnedOver) (GH : GDef P w K mg base "in_halves" 1 ["one", "other"] spInHalves) (L k : Nat) (hk : 5 ≤ k)
    (GN : GDef P w K mg base "net_of" k ["many"] (spNetOf K L)) : GDef P w K mg base "net_of" (k + 1) ["many"] (spNetOf K (L + 1)) := by
  refine gdef (st := dNetOf) T (by unfold fn defs1; simp) (by unfold faG; simp) sc_netOf (fun vs H Q E h => ?_) (fun _ _ _ _ _ _ us hl => match us, hl with | [_], _ => rfl) (fun f cdv A outer s H vs Q E ec hr h => ?_)
  · obtain ⟨l, rfl, _⟩ := h
    rfl
  · obtain ⟨l, rfl, hl, hL, tt, kk⟩ := h
    have nd := sc_netOf.nd
    refine ⟨_, pss_cons (ps_if (pt_cmpR op_lt (pe_g GL (hr.mono (by omega)) (by rfl) (pa_cons (pv 0) pa_nil)) pe_int (nomark _)) (pss_one ps_never) pss_nil)
      (pss_cons (ps_if (pt_cmpR op_eq (pv 0) pe_int (nomark _)) (pss_one (ps_ret (pe_k KN (hr.mono (by omega)) (by rfl) (pa_cons pe_int (pa_cons (pe_lst (pa_cons (pe_g GW (hr.mono (by omega)) (by rfl) (pa_cons pe_int pa_nil)) (pa_cons (pe_g GW (hr.mono (by omega)) (by rfl) (pa_cons pe_int pa_nil)) pa_nil))) pa_nil))))) pss_nil)
      (pss_cons (ps_set (i := 1) nd rfl (.inl rfl) (pe_g GN hr (by rfl) (pa_cons (pe_op op_fdivE (pv 0) pe_int) pa_nil)))
      (pss_cons (ps_set (i := 2) nd rfl (.inl rfl) (pe_g GP (hr.mono (by omega)) (by rfl) (pa_cons (pv 0) pa_nil)))
      (pss_cons (ps_set (i := 3) nd rfl (.inr rfl) (pe_g GT (hr.mono (by omega)) (by rfl) (pa_cons (pv 2) pa_nil)))
      (pss_cons (ps_set (i := 4) nd rfl (.inr rfl) (pe_lc (own := [("row", 7)]) (g := gName 7) (tt := tYes) rfl nd (pi_list (pe_fld (pv 1) rfl))
        (blkOk_by (N := ["many", "inner", "out", "back", "rows", "first", "last", "row", "place"]) (sc := defScope dNetOf) (own := [("row", 7)]) (by decide +kernel)) (fun _ _ _ _ _ => pg_name (i := 7) nd rfl (Or.inl rfl)) (fun _ _ _ _ _ => pts_nil)
        (fun _ _ _ _ _ => pe_g GH (hr.mono (by omega)) (by rfl) (pa_cons (pv 7) (pa_cons (pv 7) pa_nil)))))
      (pss_cons (ps_set (i := 5) nd rfl (.inl rfl) (pe_tupleOf (by rfl) T.tuple (pe_lc (own := [("place", 8)]) (g := gName 8) (tt := tYes) rfl nd (pi_tup (pv 2))
        (blkOk_by (N := ["many", "inner", "out", "back", "rows", "first", "last", "row", "place"]) (sc := defScope dNetOf) (own := [("place", 8)]) (by decide +kernel)) (fun _ _ _ _ _ => pg_name (i := 8) nd rfl (Or.inl rfl)) (fun _ _ _ _ _ => pts_nil)
        (fun _ _ _ _ _ => pe_ix (r := rIx K) (ta := tOp (rIx K) (tVar 4) (tC (.int 0))) ix_seq (pe_ix (r := rIx K) ix_seq (pv 4) pe_int (fun _ _ => rfl)) (pv 8) (fun _ _ => rfl)))))
      (pss_cons (ps_set (i := 6) nd rfl (.inl rfl) (pe_tupleOf (by rfl) T.tuple (pe_lc (own := [("place", 8)]) (g := gName 8) (tt := tYes) rfl nd (pi_tup (pe_ix ix_seq (pv 4) (pe_un un_neg pe_int) (fun _ _ => rfl)))
        (blkOk_by (N := ["many", "inner", "out", "back", "rows", "first", "last", "row", "place"]) (sc := defScope dNetOf) (own := [("place", 8)]) (by decide +kernel)) (fun _ _ _ _ _ => pg_name (i := 8) nd rfl (Or.inl rfl)) (fun _ _ _ _ _ => pts_nil)
        (fun _ _ _ _ _ => pe_ix (r := rIx K) ix_seq (pv 3) (pv 8) (fun _ _ => rfl)))))
      (pss_one (ps_ret (pe_k KN (hr.mono (by omega)) (by rfl) (pa_cons (pv 0) (pa_cons (pe_op op_cat (pe_op op_cat (pe_lst (pa_cons (pe_g GW (hr.mono (by omega)) (by rfl) (pa_cons (pv 0) pa_nil)) (pa_cons (pv 5) pa_nil)))
        (pe_slice sl_list (pv 4) (po_some pe_int) (po_some (pe_un un_neg pe_int)))) (pe_lst (pa_cons (pv 6) (pa_cons (pe_g GW (hr.mono (by omega)) (by rfl) (pa_cons (pv 0) pa_nil)) pa_nil)))) pa_nil)))))))))))), ?_⟩
    have nOk := netOk l (by omega)
    have n100 := nOk.hun
    have make : ∀ (H3 : Hp) (W : Addr) (rs : List Addr), Same H H3 → H3 W = some (.lst (rs.map V.ref)) → TupsAt H3 rs ((netRows (l + 1)).map fun r => r.map nv) → ∀ x dx, H3 x = none → H3 dx = none → dx ≠ x →
        spNetInit K [.ref x, nv (2 ^ (l + 1)), .ref W] (upd (upd H3 dx (.own x)) x (.ins (He.ga K "Net") dx [])) (fun v H2 => v = .non ∧ Q (.ref x) H2) E0 := by
      intro H3 W rs s3 hW hT x dx nx ndx hne
      refine ⟨H3, x, dx, W, _, rs, _, rfl, Same.up (same_upd ndx) nx, nx, upd_same, hW, hT, nOk, tt.same s3, fun H' s' N => ⟨rfl, ?_⟩⟩
      exact kk x H' (s3.trans s') (s3.free nx) N
    refine ⟨_, rfl, l + 1, rfl, by omega, fun H1 s1 => ⟨_, _, rfl, rfl, _, rfl, iteDF (by omega) ?_⟩⟩
    refine ⟨_, rfl, rfl, _, rfl, ?_⟩
    cases l with
    | zero =>
      refine iteD rfl ?_
      refine ⟨2, rfl, by omega, fun p np => ?_⟩
      refine ⟨2, rfl, by omega, fun q nq => ?_⟩
      refine ⟨show 2 ≤ sizeLine by decide, fun W nW => ?_⟩
      have sp : Same H1 _ := same_upd (o := .tup ((List.range 2).map nv)) np
      have hp : upd H1 p (.tup ((List.range 2).map nv)) p = some (.tup ((List.range 2).map nv)) := upd_same
      have sq := same_upd (o := .tup ((List.range 2).map nv)) nq
      have sw := same_upd (o := .lst [.ref p, .ref q]) nW
      refine make _ W [p, q] (((s1.trans sp).trans sq).trans sw) upd_same ?_
      exact .cons (sw _ _ (sq _ _ hp)) (.cons (sw _ _ upd_same) .nil)
    | succ l =>
      have pw : 2 ^ (l + 1 + 1) = 2 * 2 ^ (l + 1) := by rw [Nat.pow_succ]; omega
      have ppos : 2 ≤ 2 ^ (l + 1) := by have : 0 < 2 ^ l := Nat.pow_pos (by decide); rw [Nat.pow_succ]; omega
      have ev : 2 ^ (l + 1 + 1) % 2 = 0 := by omega
      refine iteDF (fun z => by have z1 := V.int.inj z; omega) ?_
      have nOk' := netOk l (by omega)
      refine ⟨_, rfl, _, _, nv (2 ^ (l + 1)), rfl, rfl, ⟨by decide, by decide⟩, ?_, l, rfl, by omega, by omega, tt.same s1, fun oi H2 s2 noi Ni => ?_⟩
      · show V.int (((2 ^ (l + 1 + 1) : Nat) : Int) / 2) = V.int ((2 ^ (l + 1) : Nat) : Int)
        congr 1
        omega
      refine ⟨_, rfl, _, rfl, n100, fun po H3 s3 npo hpo => ?_⟩
      rw [outL_outN] at hpo
      have Fo := outN_full (n := 2 ^ (l + 1 + 1)) ev
      refine ⟨_, rfl, po, _, _, rfl, hpo, Fo, n100, fun pb H4 s4 npb hpb => ?_⟩
      have hpo4 := s4 _ _ hpo
      obtain ⟨dxi, Wi, ri, hoi, hWi, hTi⟩ := (Ni.same s3).same s4
      have s14 : Same H H4 := ((s1.trans s2).trans s3).trans s4
      have li : ri.length = (netRows (l + 1)).length := by rw [hTi.length, List.length_map]
      have lR := netRows_len l
      refine ⟨_, rfl, oi, _, dxi, _, _, rfl, hoi, T.net, T.nWires, nF_wires, Wi, rfl, ⟨_, SqL.of hWi⟩, fun D nD => ?_⟩
      refine lc_it walk_list (LcT H4 D fun i => (((netRows (l + 1)).take i).map dbl).map fun r => r.map nv) (lcT_start nD rfl) (fun i H5 _ p => SqL.of (p.1 _ _ hWi)) (fun i x H5 H6 hi p y => ?_) (fun H5 p => ?_)
      · obtain ⟨rfl, hx⟩ := y
        obtain ⟨t, ht, rfl⟩ := ref_get hx
        obtain ⟨r, hr1, hr2⟩ := hTi.row ht
        obtain ⟨q, hq, rfl⟩ := rows_get hr1
        have Fq := netRows_full l q (List.mem_of_getElem? hq)
        refine ⟨rfl, tyes ?_⟩
        refine ⟨_, rfl, _, rfl, t, q, rfl, p.1 _ _ hr2, ?_, ?_, fun pr H' s' _ hpr => ?_⟩
        · intro z
          have := Fq.len
          rw [z] at this
          simp at this
          omega
        · rw [Fq.len]; omega
        · refine lcT_put2 nD p s' hpr ?_ ?_
          · rw [List.take_add_one, hq, List.map_append, List.map_append]
            rfl
          · rw [List.length_map, List.length_map, List.length_take]
            omega
      · obtain ⟨s5, ts, hD, hts⟩ := p
        have hts : TupsAt H5 ts (((netRows (l + 1)).map dbl).map fun r => r.map nv) := by
          have e : (fun i => (((netRows (l + 1)).take i).map dbl).map fun r => r.map nv) (ri.map V.ref).length = ((netRows (l + 1)).map dbl).map fun r => r.map nv := by
            show (((netRows (l + 1)).take (ri.map V.ref).length).map dbl).map _ = _
            rw [List.length_map, li, List.take_length]
          exact e ▸ hts
        have lts : ts.length = (netRows (l + 1)).length := by rw [hts.length, List.length_map, List.length_map]
        generalize hR : (netRows (l + 1)).map dbl = R at *
        have lRR : R.length = 2 * l + 2 := by rw [← hR, List.length_map, lR]
        have hRf : ∀ r ∈ R, Full r (2 ^ (l + 1 + 1)) := by
          intro r hr
          rw [← hR] at hr
          obtain ⟨q, hq, rfl⟩ := List.mem_map.mp hr
          rw [pw]
          exact dbl_full (netRows_full l q hq)
        have rowAt : ∀ i, i < R.length → ∃ t, ts[i]? = some t ∧ H5 t = some (.tup ((R.getD i []).map nv)) := by
          intro i hi
          have hr : (R.map fun r => r.map nv)[i]? = some ((R.getD i []).map nv) := by rw [List.getElem?_map, getD_get hi]; rfl
          exact hts.get hr
        obtain ⟨t0, ht0, ht0'⟩ := rowAt 0 (by omega)
        obtain ⟨tl, htl, htl'⟩ := rowAt (R.length - 1) (by omega)
        have F0 := hRf _ (getD_mem (rows := R) (i := 0) (by omega))
        have Fl := hRf _ (getD_mem (rows := R) (i := R.length - 1) (by omega))
        have a0 : atI (ts.map V.ref) 0 = some (.ref t0) := atI_nat (k := 0) (by rw [List.getElem?_map, ht0]; rfl)
        have al : atI (ts.map V.ref) (-1) = some (.ref tl) := atI_last (by rw [List.length_map]; omega) (by rw [List.length_map, List.getElem?_map, lts, lR, ← lRR, htl]; rfl)
        have s15 := s14.trans s5
        have hpo5 := s5 _ _ hpo4
        have hpb5 := s5 _ _ hpb
        -- first
        refine ⟨_, rfl, po, rfl, ⟨_, SqT.of hpo5⟩, fun D1 nD1 => ?_⟩
        refine lc_it walk_tup (LcP H5 D1 fun i => (((outN (2 ^ (l + 1 + 1))).take i).map (at0 (R.getD 0 []))).map nv) (lc_start nD1 rfl) (fun i H6 _ p => SqT.of (p.1 _ _ hpo5)) (fun i x H6 H7 hi p y => ?_) (fun H6 p => ?_)
        · obtain ⟨rfl, hx⟩ := y
          obtain ⟨hi', rfl⟩ := nv_get' hx
          have hi2 : i < 2 ^ (l + 1 + 1) := by rw [← Fo.len]; exact hi'
          refine ⟨rfl, tyes ?_⟩
          refine ⟨_, rfl, .inl ⟨D, _, _, _, rfl, rfl, SqL.of (p.1 _ _ hD), a0, _, rfl, .inr (.inl ⟨t0, _, _, _, rfl, rfl, SqT.of (p.1 _ _ ht0'), at_nv (by rw [F0.len]; exact Fo.lt _ (List.getElem_mem hi')), ?_⟩)⟩⟩
          refine lc_put nD1 p (Same.refl _) ?_ ?_
          · rw [List.take_add_one, List.getElem?_eq_getElem hi', List.map_append, List.map_append]
            rfl
          · rw [List.length_map, List.length_map, List.length_take]
            omega
        have hD1 : H6 D1 = some (.lst (((outN (2 ^ (l + 1 + 1))).map (at0 (R.getD 0 []))).map nv)) := by
          refine p.2.trans ?_
          show some (HO.lst ((((outN (2 ^ (l + 1 + 1))).take ((outN (2 ^ (l + 1 + 1))).map nv).length).map _).map nv)) = _
          rw [List.length_map, List.take_length]
        have s6 := p.1
        refine .inl ⟨D1, _, rfl, SqL.of hD1, fun pf npf => ?_⟩
        have s7 := s6.trans (same_upd (o := .tup (((outN (2 ^ (l + 1 + 1))).map (at0 (R.getD 0 []))).map nv)) npf)
        have hpf : upd H6 pf (.tup (((outN (2 ^ (l + 1 + 1))).map (at0 (R.getD 0 []))).map nv)) pf = some (.tup (((outN (2 ^ (l + 1 + 1))).map (at0 (R.getD 0 []))).map nv)) := upd_same
        generalize upd H6 pf (.tup (((outN (2 ^ (l + 1 + 1))).map (at0 (R.getD 0 []))).map nv)) = H7 at *
        -- last
        refine ⟨_, rfl, _, rfl, .inl ⟨D, _, _, _, rfl, rfl, SqL.of (s7 _ _ hD), al, tl, rfl, ⟨_, SqT.of (s7 _ _ htl')⟩, fun D2 nD2 => ?_⟩⟩
        refine lc_it walk_tup (LcP H7 D2 fun i => (((R.getD (R.length - 1) []).take i).map (at0 (invL (outN (2 ^ (l + 1 + 1))) (2 ^ (l + 1 + 1))))).map nv) (lc_start nD2 rfl) (fun i H6 _ p => SqT.of (p.1 _ _ (s7 _ _ htl'))) (fun i x H8 H9 hi p y => ?_) (fun H8 p => ?_)
        · obtain ⟨rfl, hx⟩ := y
          obtain ⟨hi', rfl⟩ := nv_get' hx
          refine ⟨rfl, tyes ?_⟩
          refine ⟨_, rfl, _, rfl, .inr (.inl ⟨pb, _, _, _, rfl, rfl, SqT.of (p.1 _ _ (s7 _ _ hpb5)), at_nv (by rw [invL_len]; exact Fl.lt _ (List.getElem_mem hi')), ?_⟩)⟩
          refine lc_put nD2 p (Same.refl _) ?_ ?_
          · rw [List.take_add_one, List.getElem?_eq_getElem hi', List.map_append, List.map_append]
            rfl
          · rw [List.length_map, List.length_map, List.length_take]
            have := Fl.len
            omega
        have hD2 : H8 D2 = some (.lst (((R.getD (R.length - 1) []).map (at0 (invL (outN (2 ^ (l + 1 + 1))) (2 ^ (l + 1 + 1))))).map nv)) := by
          refine p.2.trans ?_
          show some (HO.lst ((((R.getD (R.length - 1) []).take ((R.getD (R.length - 1) []).map nv).length).map _).map nv)) = _
          rw [List.length_map, List.take_length]
        have s8 := p.1
        refine .inl ⟨D2, _, rfl, SqL.of hD2, fun pl npl => ?_⟩
        have s9 := (s7.trans s8).trans (same_upd (o := .tup (((R.getD (R.length - 1) []).map (at0 (invL (outN (2 ^ (l + 1 + 1))) (2 ^ (l + 1 + 1))))).map nv)) npl)
        have hpf9 := s8.trans (same_upd (o := .tup (((R.getD (R.length - 1) []).map (at0 (invL (outN (2 ^ (l + 1 + 1))) (2 ^ (l + 1 + 1))))).map nv)) npl) _ _ hpf
        have hpl9 : upd H8 pl (.tup (((R.getD (R.length - 1) []).map (at0 (invL (outN (2 ^ (l + 1 + 1))) (2 ^ (l + 1 + 1))))).map nv)) pl = some (.tup (((R.getD (R.length - 1) []).map (at0 (invL (outN (2 ^ (l + 1 + 1))) (2 ^ (l + 1 + 1))))).map nv)) := upd_same
        generalize upd H8 pl (.tup (((R.getD (R.length - 1) []).map (at0 (invL (outN (2 ^ (l + 1 + 1))) (2 ^ (l + 1 + 1))))).map nv)) = H9 at *
        -- the return
        refine ⟨_, rfl, _, rfl, _, rfl, n100, fun p1 np1 => ?_⟩
        have q1 : Same H9 _ := same_upd (o := .tup ((List.range (2 ^ (l + 1 + 1))).map nv)) np1
        have hp1 : upd H9 p1 (.tup ((List.range (2 ^ (l + 1 + 1))).map nv)) p1 = some (.tup ((List.range (2 ^ (l + 1 + 1))).map nv)) := upd_same
        generalize upd H9 p1 (.tup ((List.range (2 ^ (l + 1 + 1))).map nv)) = G1 at *
        refine ⟨_, rfl, show 2 ≤ sizeLine by decide, fun A1 nA1 => ?_⟩
        have q2 := same_upd (o := .lst [.ref p1, .ref pf]) nA1
        have hA1 : upd G1 A1 (.lst [.ref p1, .ref pf]) A1 = some (.lst [.ref p1, .ref pf]) := upd_same
        generalize upd G1 A1 (.lst [.ref p1, .ref pf]) = G2 at *
        have sD : Same H5 G2 := (s9.trans q1).trans q2
        refine ⟨_, rfl, _, rfl, _, rfl, _, rfl, D, _, rfl, SqL.of (sD _ _ hD), fun B nB => ?_⟩
        rw [cut_mid ts (by omega)]
        have q3 := same_upd (o := .lst (((ts.drop 1).take (ts.length - 2)).map V.ref)) nB
        have hB : upd G2 B (.lst (((ts.drop 1).take (ts.length - 2)).map V.ref)) B = some (.lst (((ts.drop 1).take (ts.length - 2)).map V.ref)) := upd_same
        generalize upd G2 B (.lst (((ts.drop 1).take (ts.length - 2)).map V.ref)) = G3 at *
        refine ⟨A1, B, _, _, rfl, rfl, q3 _ _ hA1, hB, ?_, fun C1 nC1 => ?_⟩
        · have := small' (n := 2 + (ts.length - 2)) (by omega)
          rw [List.length_map, List.length_take, List.length_drop]
          show 2 + _ ≤ _
          omega
        have q4 := same_upd (o := .lst ([V.ref p1, V.ref pf] ++ ((ts.drop 1).take (ts.length - 2)).map V.ref)) nC1
        have hC1 : upd G3 C1 (.lst ([V.ref p1, V.ref pf] ++ ((ts.drop 1).take (ts.length - 2)).map V.ref)) C1 = some (.lst ([V.ref p1, V.ref pf] ++ ((ts.drop 1).take (ts.length - 2)).map V.ref)) := upd_same
        generalize upd G3 C1 (.lst ([V.ref p1, V.ref pf] ++ ((ts.drop 1).take (ts.length - 2)).map V.ref)) = G4 at *
        refine ⟨_, rfl, _, rfl, _, rfl, n100, fun p2 np2 => ?_⟩
        have q5 := same_upd (o := .tup ((List.range (2 ^ (l + 1 + 1))).map nv)) np2
        have hp2 : upd G4 p2 (.tup ((List.range (2 ^ (l + 1 + 1))).map nv)) p2 = some (.tup ((List.range (2 ^ (l + 1 + 1))).map nv)) := upd_same
        generalize upd G4 p2 (.tup ((List.range (2 ^ (l + 1 + 1))).map nv)) = G5 at *
        refine ⟨show 2 ≤ sizeLine by decide, fun E1 nE1 => ?_⟩
        have q6 := same_upd (o := .lst [.ref pl, .ref p2]) nE1
        have hE1 : upd G5 E1 (.lst [.ref pl, .ref p2]) E1 = some (.lst [.ref pl, .ref p2]) := upd_same
        generalize upd G5 E1 (.lst [.ref pl, .ref p2]) = G6 at *
        refine ⟨C1, E1, _, _, rfl, rfl, q6 _ _ (q5 _ _ hC1), hE1, ?_, fun W nW => ?_⟩
        · have := small' (n := 2 + (ts.length - 2) + 2) (by omega)
          rw [List.length_append, List.length_map, List.length_take, List.length_drop]
          show 2 + _ + 2 ≤ _
          omega
        have q7 := same_upd (o := .lst ([V.ref p1, V.ref pf] ++ ((ts.drop 1).take (ts.length - 2)).map V.ref ++ [.ref pl, .ref p2])) nW
        have hW : upd G6 W (.lst ([V.ref p1, V.ref pf] ++ ((ts.drop 1).take (ts.length - 2)).map V.ref ++ [.ref pl, .ref p2])) W = some (.lst ([V.ref p1, V.ref pf] ++ ((ts.drop 1).take (ts.length - 2)).map V.ref ++ [.ref pl, .ref p2])) := upd_same
        generalize upd G6 W (.lst ([V.ref p1, V.ref pf] ++ ((ts.drop 1).take (ts.length - 2)).map V.ref ++ [.ref pl, .ref p2])) = G7 at *
        have sE := ((((q3.trans q4).trans q5).trans q6).trans q7)
        refine make G7 W ([p1, pf] ++ (ts.drop 1).take (ts.length - 2) ++ [pl, p2]) ((((s15.trans s9).trans q1).trans q2).trans sE) ?_ ?_
        · rw [hW, List.map_append, List.map_append]
          rfl
        · have e : (netRows (l + 1 + 1)).map (fun r => r.map nv) = [(List.range (2 ^ (l + 1 + 1))).map nv, ((outN (2 ^ (l + 1 + 1))).map (at0 (R.getD 0 []))).map nv] ++ ((R.map fun r => r.map nv).drop 1).take (ts.length - 2) ++
              [((R.getD (R.length - 1) []).map (at0 (invL (outN (2 ^ (l + 1 + 1))) (2 ^ (l + 1 + 1))))).map nv, (List.range (2 ^ (l + 1 + 1))).map nv] := by
            show (rowsN (2 ^ (l + 2)) (netRows (l + 1))).map _ = _
            unfold rowsN
            rw [hR, List.map_append, List.map_append, List.map_take, List.map_drop, lts, lR, ← lRR]
            rfl
          rw [e]
          have hts7 : TupsAt G7 ts (R.map fun r => r.map nv) := hts.same (((s9.trans q1).trans q2).trans sE)
          refine paired_app ?_ (paired_app (paired_take _ (paired_drop 1 hts7)) ?_)
          · exact .cons ((((q1.trans q2).trans sE)) _ _ hpl9) (.cons ((q6.trans q7) _ _ hp2) .nil)
          · exact .cons ((q2.trans sE) _ _ hp1) (.cons ((((q1.trans q2).trans sE)) _ _ hpf9) .nil)
end
end Ck
/-! ## text K61P -/
set_option Elab.async false
set_option linter.all false
set_option maxRecDepth 100000
set_option maxHeartbeats 4000000
namespace Ck
/-! ### halves -/
def hA (h : List (Option Nat)) (i : Nat) : Option Nat := h.getD i none
theorem hA_set {h : List (Option Nat)} {x i : Nat} {v : Option Nat} (hx : x < h.length) : hA (h.set x v) i = if i = x then v else hA h i := by
  unfold hA
  rw [List.getD_eq_getElem?_getD, List.getD_eq_getElem?_getD, List.getElem?_set]
  by_cases c : x = i
  · subst c
    rw [if_pos rfl, if_pos hx, if_pos rfl]
    rfl
  · rw [if_neg c, if_neg (fun z => c z.symm)]
theorem hA_get {h : List (Option Nat)} {i : Nat} (hi : i < h.length) : h[i]? = some (hA h i) := by
  unfold hA
  rw [List.getD_eq_getElem?_getD, List.getElem?_eq_getElem hi]
  rfl
theorem nons_set : ∀ {h : List (Option Nat)} {x b : Nat}, x < h.length → hA h x = none → nons (h.set x (some b)) + 1 = nons h
  | a :: r, 0, b, _, e => by
    have e : a = none := e
    subst e
    simp [nons]
  | a :: r, x + 1, b, hx, e => by
    have e : hA r x = none := e
    have ih := nons_set (b := b) (Nat.lt_of_succ_lt_succ hx) e
    show nons (a :: r.set x (some b)) + 1 = nons (a :: r)
    cases a with
    | none =>
      have h1 : nons (none :: r.set x (some b)) = nons (r.set x (some b)) + 1 := by simp [nons]
      have h2 : nons (none :: r) = nons r + 1 := by simp [nons]
      omega
    | some c =>
      have h1 : nons (some c :: r.set x (some b)) = nons (r.set x (some b)) := by simp [nons]
      have h2 : nons (some c :: r) = nons r := by simp [nons]
      omega
structure Invol (n : Nat) (s : Nat → Nat) : Prop where
  lt : ∀ i, i < n → s i < n
  inv : ∀ i, i < n → s (s i) = i
  ne : ∀ i, i < n → s i ≠ i
structure HInv (n : Nat) (s : Nat → Nat) (start here : Nat) (h : List (Option Nat)) : Prop where
  len : h.length = n
  tau : ∀ i b, i < n → hA h i = some b → b < 2 ∧ hA h (pt i) = some (1 - b)
  st : (here = start ∧ ∀ i b, i < n → hA h i = some b → hA h (s i) = some (1 - b)) ∨
    (here ≠ start ∧ hA h start = some 0 ∧ hA h (s here) = some 1 ∧ hA h here = none ∧ ∀ i b, i < n → i ≠ start → i ≠ s here → hA h i = some b → hA h (s i) = some (1 - b))
theorem hstep {n : Nat} {s : Nat → Nat} {start x : Nat} {h : List (Option Nat)} (S : Invol n s) (ev : n % 2 = 0) (hs : start < n) (hx : x < n) (I : HInv n s start x h) (none_ : hA h x = none) :
    HInv n s start (s (pt x)) ((h.set x (some 0)).set (pt x) (some 1)) ∧ nons ((h.set x (some 0)).set (pt x) (some 1)) < nons h := by
  have yx : pt x ≠ x := pt_ne x
  have hyn : pt x < n := pt_lt hx ev
  generalize hy : pt x = y at *
  have pty : pt y = x := by rw [← hy, pt_pt]
  have hyN : hA h y = none := by
    cases e : hA h y with
    | none => rfl
    | some b =>
      have := (I.tau y b hyn e).2
      rw [pty, none_] at this
      cases this
  have l1 : (h.set x (some 0)).length = n := by rw [List.length_set, I.len]
  have fx : hA ((h.set x (some 0)).set y (some 1)) x = some 0 := by rw [hA_set (by rw [l1]; exact hyn), if_neg (Ne.symm yx), hA_set (by rw [I.len]; exact hx), if_pos rfl]
  have fy : hA ((h.set x (some 0)).set y (some 1)) y = some 1 := by rw [hA_set (by rw [l1]; exact hyn), if_pos rfl]
  have fo : ∀ i, i ≠ x → i ≠ y → hA ((h.set x (some 0)).set y (some 1)) i = hA h i := fun i h1 h2 => by rw [hA_set (by rw [l1]; exact hyn), if_neg h2, hA_set (by rw [I.len]; exact hx), if_neg h1]
  have fs : ∀ i b, hA h i = some b → hA ((h.set x (some 0)).set y (some 1)) i = some b := fun i b e => by
    rw [fo i (fun z => by rw [z, none_] at e; cases e) (fun z => by rw [z, hyN] at e; cases e), e]
  have cnt : nons ((h.set x (some 0)).set y (some 1)) < nons h := by
    have c1 := nons_set (b := 0) (by rw [I.len]; exact hx) none_
    have c2 := nons_set (h := h.set x (some 0)) (x := y) (b := 1) (by rw [l1]; exact hyn) (by rw [hA_set (by rw [I.len]; exact hx), if_neg yx, hyN])
    omega
  refine ⟨⟨by rw [List.length_set, l1], fun i b hi e => ?_, ?_⟩, cnt⟩
  · by_cases c1 : i = x
    · subst c1
      rw [fx] at e
      obtain rfl := Option.some.inj e
      rw [hy, fy]
      exact ⟨by decide, rfl⟩
    · by_cases c2 : i = y
      · subst c2
        rw [fy] at e
        obtain rfl := Option.some.inj e
        rw [pty, fx]
        exact ⟨by decide, rfl⟩
      · rw [fo i c1 c2] at e
        have := I.tau i b hi e
        exact ⟨this.1, fs _ _ this.2⟩
  · have sy := S.lt y hyn
    have ssy := S.inv y hyn
    rcases I.st with ⟨rfl, cl⟩ | ⟨hne, h0, h1, _, cl⟩
    · by_cases z : s y = x
      · have q0 : s x = y := by rw [← z]; exact ssy
        refine .inl ⟨z, fun i b hi e => ?_⟩
        by_cases c1 : i = x
        · subst c1
          rw [fx] at e
          obtain rfl := Option.some.inj e
          rw [q0, fy]
        · by_cases c2 : i = y
          · subst c2
            rw [fy] at e
            obtain rfl := Option.some.inj e
            rw [z, fx]
          · rw [fo i c1 c2] at e
            exact fs _ _ (cl i b hi e)
      · refine .inr ⟨z, fx, by rw [ssy, fy], ?_, fun i b hi i1 i2 e => ?_⟩
        · rw [fo _ z (S.ne y hyn)]
          cases e : hA h (s y) with
          | none => rfl
          | some b =>
            have := cl _ b sy e
            rw [ssy, hyN] at this
            cases this
        · rw [ssy] at i2
          rw [fo i i1 i2] at e
          exact fs _ _ (cl i b hi e)
    · have sx := S.lt x hx
      have ssx := S.inv x hx
      by_cases z : s y = start
      · refine .inl ⟨z, fun i b hi e => ?_⟩
        by_cases c1 : i = x
        · subst c1
          rw [fx] at e
          obtain rfl := Option.some.inj e
          exact fs _ _ h1
        · by_cases c2 : i = y
          · subst c2
            rw [fy] at e
            obtain rfl := Option.some.inj e
            rw [z]
            exact fs _ _ h0
          · rw [fo i c1 c2] at e
            by_cases c3 : i = start
            · subst c3
              rw [h0] at e
              obtain rfl := Option.some.inj e
              rw [← z, ssy, fy]
            · by_cases c4 : i = s x
              · subst c4
                rw [h1] at e
                obtain rfl := Option.some.inj e
                rw [ssx, fx]
              · exact fs _ _ (cl i b hi c3 c4 e)
      · have zx : s y ≠ x := fun q => by
          have : s x = y := by rw [← q, ssy]
          rw [this, hyN] at h1
          cases h1
        refine .inr ⟨z, fs _ _ h0, by rw [ssy, fy], ?_, fun i b hi i1 i2 e => ?_⟩
        · rw [fo _ zx (S.ne y hyn)]
          cases e : hA h (s y) with
          | none => rfl
          | some b =>
            have := cl _ b sy z (fun q => yx (by rw [← ssy, q, ssx])) e
            rw [ssy, hyN] at this
            cases this
        · rw [ssy] at i2
          by_cases c1 : i = x
          · subst c1
            rw [fx] at e
            obtain rfl := Option.some.inj e
            exact fs _ _ h1
          · rw [fo i c1 i2] at e
            by_cases c4 : i = s x
            · subst c4
              rw [h1] at e
              obtain rfl := Option.some.inj e
              rw [ssx, fx]
            · exact fs _ _ (cl i b hi i1 c4 e)
/-- between two turns of the outer loop -/
structure HBet (n : Nat) (s : Nat → Nat) (k : Nat) (h : List (Option Nat)) : Prop where
  len : h.length = n
  tau : ∀ i b, i < n → hA h i = some b → b < 2 ∧ hA h (pt i) = some (1 - b)
  cl : ∀ i b, i < n → hA h i = some b → hA h (s i) = some (1 - b)
  done : ∀ i, i < k → ∃ b, hA h i = some b
theorem HBet.start {n : Nat} {s : Nat → Nat} {k : Nat} {h : List (Option Nat)} (B : HBet n s k h) : HInv n s k k h := ⟨B.len, B.tau, .inl ⟨rfl, B.cl⟩⟩
theorem HBet.zero (n : Nat) (s : Nat → Nat) : HBet n s 0 (List.replicate n none) := by
  have e : ∀ i, hA (List.replicate n none) i = none := by
    intro i
    unfold hA
    rw [List.getD_eq_getElem?_getD, List.getElem?_replicate]
    split <;> rfl
  exact ⟨List.length_replicate, fun i b _ q => by (rw [e] at q; cases q), fun i b _ q => by (rw [e] at q; cases q), fun i hi => by omega⟩
def sg (fs : List Nat) (n i : Nat) : Nat := at0 (invL fs n) (pt (at0 fs i))
theorem sg_invol {fs : List Nat} {n : Nat} (F : Full fs n) (ev : n % 2 = 0) : Invol n (sg fs n) := by
  refine ⟨fun i hi => F.inv_lt (pt_lt (F.at_lt hi) ev), fun i hi => ?_, fun i hi q => ?_⟩
  · show at0 (invL fs n) (pt (at0 fs (at0 (invL fs n) (pt (at0 fs i))))) = i
    rw [F.inv_r (pt_lt (F.at_lt hi) ev), pt_pt, F.inv_l hi]
  · have q2 : at0 fs (at0 (invL fs n) (pt (at0 fs i))) = at0 fs i := by
      have q : at0 (invL fs n) (pt (at0 fs i)) = i := q
      rw [q]
    rw [F.inv_r (pt_lt (F.at_lt hi) ev)] at q2
    exact pt_ne _ q2
/-- when the inner loop has ended -/
theorem HInv.leave {n : Nat} {s : Nat → Nat} {k here : Nat} {h : List (Option Nat)} (I : HInv n s k here h) {b : Nat} (e : hA h here = some b) (dn : ∀ i, i < k → ∃ b, hA h i = some b) : HBet n s (k + 1) h := by
  rcases I.st with ⟨q, cl⟩ | ⟨_, _, _, q, _⟩
  · subst q
    refine ⟨I.len, I.tau, cl, fun i hi => ?_⟩
    by_cases c : i = here
    · subst c; exact ⟨b, e⟩
    · exact dn i (by omega)
  · rw [q] at e
    cases e
structure HalfOk (fs : List Nat) (n : Nat) (hf : List Nat) : Prop where
  len : hf.length = n
  bit : ∀ i, i < n → at0 hf i < 2
  tau : ∀ i, i < n → at0 hf (pt i) + at0 hf i = 1
  sig : ∀ i, i < n → at0 hf (sg fs n i) + at0 hf i = 1
def halfL (h : List (Option Nat)) : List Nat := h.map fun o => o.getD 0
theorem halfL_at {h : List (Option Nat)} {i b : Nat} (hi : i < h.length) (e : hA h i = some b) : at0 (halfL h) i = b := by
  unfold at0 halfL
  rw [List.getD_eq_getElem?_getD, List.getElem?_map, hA_get hi, e]
  rfl
theorem HBet.half {fs : List Nat} {n : Nat} {h : List (Option Nat)} (B : HBet n (sg fs n) n h) (F : Full fs n) (ev : n % 2 = 0) : HalfOk fs n (halfL h) ∧ h = (halfL h).map some := by
  have S := sg_invol F ev
  refine ⟨⟨by unfold halfL; rw [List.length_map, B.len], fun i hi => ?_, fun i hi => ?_, fun i hi => ?_⟩, ?_⟩
  · obtain ⟨b, e⟩ := B.done i hi
    rw [halfL_at (by rw [B.len]; exact hi) e]
    exact (B.tau i b hi e).1
  · obtain ⟨b, e⟩ := B.done i hi
    have t := B.tau i b hi e
    rw [halfL_at (by rw [B.len]; exact hi) e, halfL_at (by rw [B.len]; exact pt_lt hi ev) t.2]
    omega
  · obtain ⟨b, e⟩ := B.done i hi
    have t := B.tau i b hi e
    rw [halfL_at (by rw [B.len]; exact hi) e, halfL_at (by rw [B.len]; exact S.lt i hi) (B.cl i b hi e)]
    omega
  · refine List.ext_getElem (by unfold halfL; rw [List.length_map, List.length_map]) fun i h1 h2 => ?_
    have hi : i < n := by rw [← B.len]; exact h1
    obtain ⟨b, e⟩ := B.done i hi
    have g := hA_get h1
    rw [List.getElem?_eq_getElem h1, e] at g
    have g := Option.some.inj g
    have e2 : ((halfL h).map some)[i] = some ((h[i]).getD 0) := by simp [halfL]
    rw [e2, g]
    rfl
end Ck
/-! ## text K61L -/
set_option Elab.async false
set_option linter.all false
set_option maxRecDepth 100000
set_option maxHeartbeats 4000000
namespace Ck
open PySem PySem.Spec PyProof.Rows L2
theorem hA_some_set {h : List (Option Nat)} {x j v : Nat} (hx : x < h.length) (e : ∃ b, hA h j = some b) : ∃ b, hA (h.set x (some v)) j = some b := by
  obtain ⟨b, e⟩ := e
  rw [hA_set hx]
  by_cases c : j = x
  · exact ⟨v, by rw [if_pos c]⟩
  · exact ⟨b, by rw [if_neg c, e]⟩
theorem ov_at {h : List (Option Nat)} {i : Nat} (hi : i < h.length) : atI (h.map ov) (i : Int) = some (ov (hA h i)) := atI_nat (by rw [List.getElem?_map, hA_get hi]; rfl)
section
variable {P : Program} {w : World} {K : PySem.W.Frag} {mg : Str → Option Value} {base : Heap}
/-! ### halves_of -/
def spHalvesOf : Sp := fun vs H Q _ => ∃ (a : Addr) (fs : List Nat) (n : Nat), vs = [.ref a] ∧ H a = some (.tup (fs.map nv)) ∧ Full fs n ∧ n % 2 = 0 ∧ n ≤ 100 ∧ ∀ p H' hf, Same H H' → H p = none → H' p = some (.tup (hf.map nv)) → HalfOk fs n hf → Q (.ref p) H'
theorem sc_halvesOf : FnScope ["pairs", "back", "half", "start", "here", "mate"] ["pairs"] (defScope dHalvesOf) := ⟨rfl, rfl, rfl, by decide +kernel, rfl, by decide +kernel, by decide +kernel⟩
theorem g_halvesOf (T : Tx K mg) (GT : GDef P w K mg base "turned_over" 1 ["pairs"] spTurnedOver) (GQ : GDef P w K mg base "partner" 1 ["gate"] spPartner) : GDef P w K mg base "halves_of" 2 ["pairs"] spHalvesOf := by
  refine gdef (st := dHalvesOf) T (by unfold fn defs1; simp) (by unfold faG; simp) sc_halvesOf (fun vs H Q E h => ?_) (fun _ _ _ _ _ _ us hl => match us, hl with | [_], _ => rfl) (fun f cdv A outer s H vs Q E ec hr h => ?_)
  · obtain ⟨a, ps, n, rfl, _⟩ := h
    rfl
  · obtain ⟨a, fs, n, rfl, ha, F, ev, hn, k⟩ := h
    have nd := sc_halvesOf.nd
    refine ⟨_, pss_cons (ps_set (i := 1) nd rfl (.inl rfl) (pe_g GT hr (by rfl) (pa_cons (pv 0) pa_nil)))
      (pss_cons (ps_set (i := 2) nd rfl (.inl rfl) (pe_op op_rep (pe_lst (pa_cons pe_non pa_nil)) (pe_callB call_len_seq (by rfl) T.len PySem.boot_len (pa_cons (pv 0) pa_nil))))
      (pss_cons (ps_for PassesOwn.never rfl (pi_range1 (by rfl) T.range (pa_cons (pe_callB call_len_seq (by rfl) T.len PySem.boot_len (pa_cons (pv 0) pa_nil)) pa_nil)) (pg_name (i := 3) nd rfl (Or.inl rfl))
        (pss_cons (ps_set (i := 4) nd rfl (.inl rfl) (pv 3))
        (pss_one (ps_while PassesOwn.never (pt_cmpR op_isN (pe_ix ix_seq (pv 2) (pv 4) (fun _ _ => rfl)) pe_non (nomark _))
          (pss_cons (ps_asg pe_int (pg_sub (pv 2) (pv 4) set_list))
          (pss_cons (ps_set (i := 5) nd rfl (.inl rfl) (pe_g GQ hr (by rfl) (pa_cons (pv 4) pa_nil)))
          (pss_cons (ps_asg pe_int (pg_sub (pv 2) (pv 5) set_list))
          (pss_one (ps_set (i := 4) nd rfl (.inl rfl) (pe_ix ix_seq (pv 1) (pe_g GQ hr (by rfl) (pa_cons (pe_ix ix_seq (pv 0) (pv 5) (fun _ _ => rfl)) pa_nil)) (fun _ _ => rfl)))))))))))
      (pss_one (ps_ret (pe_tupleOf (by rfl) T.tuple (pv 2)))))), ?_⟩
    refine ⟨_, rfl, a, fs, n, rfl, ha, F, hn, fun B G0 sB nB hB => ?_⟩
    refine ⟨by decide, fun L nL => ?_⟩
    have s1 : Same G0 _ := same_upd (o := .lst [V.non]) nL
    have hL1 : upd G0 L (.lst [V.non]) L = some (.lst [V.non]) := upd_same
    generalize upd G0 L (.lst [V.non]) = G1 at *
    refine ⟨_, rfl, _, _, rfl, .inr (SqT.of ((sB.trans s1) _ _ ha)), L, _, _, rfl, rfl, hL1, by omega, by rw [List.length_map, F.len]; omega, ?_, fun Fh nF => ?_⟩
    · rw [List.length_map, F.len]
      show 1 * (n : Int).toNat ≤ sizeLine
      have := small' hn
      omega
    have nF0 : G0 Fh = none := s1.free nF
    have e0 : (List.replicate ((((fs.map nv).length : Nat) : Int)).toNat [V.non]).flatten = (List.replicate n (none : Option Nat)).map ov := by
      rw [flat1, List.length_map, F.len, List.map_replicate]
      rfl
    rw [e0]
    have s2 := s1.trans (same_upd (o := .lst ((List.replicate n (none : Option Nat)).map ov)) nF)
    have hF2 : upd G1 Fh (.lst ((List.replicate n (none : Option Nat)).map ov)) Fh = some (.lst ((List.replicate n (none : Option Nat)).map ov)) := upd_same
    generalize upd G1 Fh (.lst ((List.replicate n (none : Option Nat)).map ov)) = G2 at *
    have ha0 := sB _ _ ha
    refine ⟨_, rfl, _, _, rfl, .inr (SqT.of (s2 _ _ ha0)), _, rfl, (by rw [List.length_map, F.len]; omega), (by rw [List.length_map, F.len]; omega), ?_⟩
    have S := sg_invol F ev
    refine for_it walk_range (fun i σ H1 => (∃ x y z, σ = [some (.ref a), some (.ref B), some (.ref Fh), x, y, z]) ∧ Same G0 H1 ∧ ∃ h, H1 Fh = some (.lst (h.map ov)) ∧ HBet n (sg fs n) i h)
      ⟨⟨_, _, _, rfl⟩, s2, _, hF2, HBet.zero n _⟩ (fun _ _ _ _ _ => trivial) (fun i x σ H1 H2 hi p y => ?_) (fun σ H1 p => ?_)
    · obtain ⟨⟨x0, y0, z0, rfl⟩, s3, h0, hF, hB0⟩ := p
      obtain ⟨rfl, hx⟩ := y
      have hx : x = nv i := by rw [hx]; show V.int _ = V.int _; rw [Int.zero_add]
      subst hx
      rw [List.length_map, F.len] at hi
      have hi : i < n := by omega
      refine ⟨_, rfl, ?_⟩
      refine ⟨fun m σ H1 => ∃ (here : Nat) (h : List (Option Nat)) (z : Option V), m = nons h ∧ σ = [some (.ref a), some (.ref B), some (.ref Fh), some (nv i), some (nv here), z] ∧ here < n ∧ Same G0 H1 ∧ H1 Fh = some (.lst (h.map ov)) ∧ HInv n (sg fs n) i here h ∧ ∀ j, j < i → ∃ b, hA h j = some b,
        ⟨_, i, h0, z0, rfl, rfl, hi, s3, hF, hB0.start, hB0.done⟩, ?_⟩
      rintro m σ H3 ⟨here, h, z, rfl, rfl, hh, s4, hF4, I, dn⟩
      refine ⟨_, rfl, _, rfl, .inl ⟨Fh, _, _, _, rfl, rfl, SqL.of hF4, ov_at (by rw [I.len]; exact hh), rfl, _, rfl, ?_⟩⟩
      by_cases c : hA h here = none
      · refine iteD (by rw [c]; rfl) ?_
        have st := hstep S ev hi hh I c
        have yn := pt_lt hh ev
        refine ⟨_, fun σ' H' q => ⟨_, st.2, q⟩, ?_⟩
        refine ⟨_, rfl, _, rfl, Fh, _, _, here, rfl, rfl, hF4, ixN_nat (by rw [List.length_map, I.len]; exact hh), ?_⟩
        refine ⟨_, rfl, here, rfl, ?_⟩
        refine ⟨_, rfl, _, rfl, Fh, _, _, pt here, rfl, rfl, upd_same, ixN_nat (by rw [List.length_set, List.length_map, I.len]; exact yn), ?_⟩
        have s5 : Same G0 (upd (upd H3 Fh (.lst ((h.map ov).set here (V.int 0)))) Fh (.lst (((h.map ov).set here (V.int 0)).set (pt here) (V.int 1)))) := Same.up (Same.up s4 nF0) nF0
        refine ⟨_, rfl, _, rfl, _, rfl, .inr (.inl ⟨a, _, _, _, rfl, rfl, SqT.of (s5 _ _ ha0), at_nv (by rw [F.len]; exact yn), at0 fs (pt here), rfl, ?_⟩)⟩
        refine .inr (.inl ⟨B, _, _, _, rfl, rfl, SqT.of (s5 _ _ hB), at_nv (by rw [invL_len]; exact pt_lt (F.at_lt yn) ev), ?_⟩)
        refine ⟨_, _, _, rfl, rfl, S.lt _ yn, s5, ?_, st.1, fun j hj => hA_some_set (by rw [List.length_set, I.len]; exact yn) (hA_some_set (by rw [I.len]; exact hh) (dn j hj))⟩
        rw [upd_same, List.map_set, List.map_set]
        rfl
      · cases e : hA h here with
        | none => exact absurd e c
        | some b =>
          refine iteDF (fun z => by cases z) ?_
          exact ⟨⟨_, _, _, rfl⟩, s4, h, hF4, I.leave e dn⟩
    · obtain ⟨⟨x0, y0, z0, rfl⟩, s3, h0, hF, hB0⟩ := p
      have en : (((fs.map nv).length : Nat) : Int).toNat = n := by rw [List.length_map, F.len]; omega
      rw [en] at hB0
      obtain ⟨ok, e⟩ := hB0.half F ev
      refine ⟨_, rfl, .inl ⟨Fh, _, rfl, SqL.of hF, fun q nq => ?_⟩⟩
      refine k q _ (halfL h0) ((sB.trans s3).trans (same_upd nq)) ((sB.trans s3).free nq) ?_ ok
      rw [upd_same]
      have e2 : h0.map ov = (halfL h0).map nv := by rw [← map_some_ov, ← e]
      rw [e2]
end
end Ck
/-! ## text K61S -/
set_option Elab.async false
set_option linter.all false
set_option maxRecDepth 100000
set_option maxHeartbeats 4000000
namespace Ck
/-! ### the settings of a pairing -/
def gk (hf : List Nat) (s k : Nat) : Nat := if at0 hf (2 * k) = s then 2 * k else 2 * k + 1
def sideL (fs hf : List Nat) (n s : Nat) : List Nat := (List.range (n / 2)).map fun k => at0 fs (gk hf s k) / 2
def firstL (hf : List Nat) (n : Nat) : List Nat := (List.range (n / 2)).map fun k => at0 hf (2 * k)
def lastL (fs hf : List Nat) (n : Nat) : List Nat := (List.range (n / 2)).map fun k => at0 hf (at0 (invL fs n) (2 * k))
def Sets : Nat → List Nat → List (List Nat) → Prop
  | 0, _, _ => False
  | 1, fs, ss => ss = [[at0 fs 0]]
  | l + 2, fs, ss => ∃ hf s0 s1, HalfOk fs (2 ^ (l + 2)) hf ∧ Sets (l + 1) (sideL fs hf (2 ^ (l + 2)) 0) s0 ∧ Sets (l + 1) (sideL fs hf (2 ^ (l + 2)) 1) s1 ∧
      ss = [firstL hf (2 ^ (l + 2))] ++ List.zipWith (fun a b => a ++ b) s0 s1 ++ [lastL fs hf (2 ^ (l + 2))]
theorem gk_div (hf : List Nat) (s k : Nat) : gk hf s k / 2 = k := by
  unfold gk
  split <;> omega
theorem gk_lt {hf : List Nat} {s k n : Nat} (h : k < n / 2) : gk hf s k < n := by
  unfold gk
  split <;> omega
theorem pt_even (k : Nat) : pt (2 * k) = 2 * k + 1 := by
  unfold pt
  split <;> omega
theorem pt_odd (k : Nat) : pt (2 * k + 1) = 2 * k := by
  unfold pt
  split <;> omega
theorem gk_half {fs hf : List Nat} {n s k : Nat} (O : HalfOk fs n hf) (hs : s < 2) (h : k < n / 2) : at0 hf (gk hf s k) = s := by
  unfold gk
  split
  · assumption
  · rename_i c
    have t := O.tau (2 * k) (by omega)
    have b := O.bit (2 * k) (by omega)
    rw [pt_even] at t
    omega
theorem gk_of {fs hf : List Nat} {n g : Nat} (O : HalfOk fs n hf) (ev : n % 2 = 0) (hg : g < n) : gk hf (at0 hf g) (g / 2) = g := by
  have t := O.tau (2 * (g / 2)) (by omega)
  rw [pt_even] at t
  unfold gk
  rcases Nat.mod_two_eq_zero_or_one g with c | c
  · have e : 2 * (g / 2) = g := by omega
    rw [e, if_pos rfl]
  · have e : 2 * (g / 2) + 1 = g := by omega
    rw [e] at t
    rw [if_neg (by omega), e]
theorem side_at {fs hf : List Nat} {n s k : Nat} (h : k < n / 2) : at0 (sideL fs hf n s) k = at0 fs (gk hf s k) / 2 := at0_map h
theorem side_full {fs hf : List Nat} {n s : Nat} (F : Full fs n) (O : HalfOk fs n hf) (ev : n % 2 = 0) (hs : s < 2) : Full (sideL fs hf n s) (n / 2) := by
  refine Full.of (by unfold sideL; rw [List.length_map, List.length_range]) (fun k h => ?_) fun j k hj hk e => ?_
  · rw [side_at h]
    have := F.at_lt (gk_lt (hf := hf) (s := s) h)
    omega
  · rw [side_at hj, side_at hk] at e
    have lj := gk_lt (hf := hf) (s := s) hj
    have lk := gk_lt (hf := hf) (s := s) hk
    by_cases c : at0 fs (gk hf s j) = at0 fs (gk hf s k)
    · have := F.inj lj lk c
      have d1 := gk_div hf s j
      have d2 := gk_div hf s k
      rw [this] at d1
      omega
    · have p : pt (at0 fs (gk hf s k)) = at0 fs (gk hf s j) := by
        generalize at0 fs (gk hf s j) = x at *
        generalize at0 fs (gk hf s k) = y at *
        unfold pt
        split <;> omega
      have q : sg fs n (gk hf s k) = gk hf s j := by
        unfold sg
        rw [p, F.inv_l lj]
      have t := O.sig _ lk
      rw [q, gk_half O hs hj, gk_half O hs hk] at t
      omega
/-- a row so far -/
def rowP (fs hf : List Nat) (n s i : Nat) : List (Option Nat) := (List.range (n / 2)).map fun k => if gk hf s k < i then some (at0 fs (gk hf s k) / 2) else none
theorem rowP_len (fs hf : List Nat) (n s i : Nat) : (rowP fs hf n s i).length = n / 2 := by unfold rowP; rw [List.length_map, List.length_range]
theorem rowP_get {fs hf : List Nat} {n s i j : Nat} (h : j < (rowP fs hf n s i).length) : (rowP fs hf n s i)[j] = if gk hf s j < i then some (at0 fs (gk hf s j) / 2) else none := by
  simp [rowP]
theorem rowP_zero (fs hf : List Nat) (n s : Nat) : rowP fs hf n s 0 = List.replicate (n / 2) none := by
  refine List.ext_getElem (by rw [rowP_len, List.length_replicate]) fun i h1 h2 => ?_
  rw [rowP_get, List.getElem_replicate, if_neg (Nat.not_lt_zero _)]
theorem rowP_end (fs hf : List Nat) (n s : Nat) : rowP fs hf n s n = (sideL fs hf n s).map some := by
  unfold rowP sideL
  rw [List.map_map]
  refine List.map_congr_left fun k hk => ?_
  have := gk_lt (hf := hf) (s := s) (List.mem_range.mp hk)
  show (if gk hf s k < n then some (at0 fs (gk hf s k) / 2) else none) = some (at0 fs (gk hf s k) / 2)
  rw [if_pos this]
theorem rowP_set {fs hf : List Nat} {n s i : Nat} (O : HalfOk fs n hf) (ev : n % 2 = 0) (hi : i < n) (e : at0 hf i = s) : rowP fs hf n s (i + 1) = (rowP fs hf n s i).set (i / 2) (some (at0 fs i / 2)) := by
  have g := gk_of O ev hi
  rw [e] at g
  refine List.ext_getElem (by rw [List.length_set, rowP_len, rowP_len]) fun j h1 h2 => ?_
  rw [List.getElem_set, rowP_get, rowP_get]
  by_cases c : i / 2 = j
  · subst c
    rw [if_pos rfl, g, if_pos (Nat.lt_succ_self i)]
  · rw [if_neg c]
    have d := gk_div hf s j
    have ne : gk hf s j ≠ i := fun z => c (by rw [← z, d])
    by_cases q : gk hf s j < i
    · rw [if_pos q, if_pos (by omega)]
    · rw [if_neg q, if_neg (by omega)]
theorem rowP_skip {fs hf : List Nat} {n s i : Nat} (O : HalfOk fs n hf) (hs : s < 2) (hi : i < n) (e : at0 hf i ≠ s) : rowP fs hf n s (i + 1) = rowP fs hf n s i := by
  unfold rowP
  refine List.map_congr_left fun k hk => ?_
  have h := gk_half O hs (List.mem_range.mp hk)
  have ne : gk hf s k ≠ i := fun z => e (by rw [← z, h])
  by_cases q : gk hf s k < i
  · rw [if_pos q, if_pos (by omega)]
  · rw [if_neg q, if_neg (by omega)]
theorem fill_some : ∀ (fs : List Nat) (fr : List Nat), fillL (fs.map some) fr = fs
  | [], _ => rfl
  | a :: r, fr => by show a :: fillL (r.map some) fr = a :: r; rw [fill_some]
theorem fullOf_some (fs : List Nat) : fullOf (fs.map some) = fs := fill_some _ _
/-- the shape -/
theorem sets_shape : ∀ l fs ss, Full fs (2 ^ (l + 1)) → Sets (l + 1) fs ss → ss.length = 2 * l + 1 ∧ (∀ r ∈ ss, r.length = 2 ^ l) ∧ ∀ r ∈ ss, ∀ b ∈ r, b = 0 ∨ b = 1
  | 0, fs, ss, F, h => by
    have h : ss = [[at0 fs 0]] := h
    subst h
    have := F.at_lt (i := 0) (by decide)
    refine ⟨rfl, fun r hr => ?_, fun r hr b hb => ?_⟩
    · rw [List.mem_singleton.mp hr]; rfl
    · rw [List.mem_singleton.mp hr] at hb
      rw [List.mem_singleton.mp hb]
      omega
  | l + 1, fs, ss, F, h => by
    obtain ⟨hf, s0, s1, O, h0, h1, rfl⟩ := h
    have e2 : 2 ^ (l + 1 + 1) = 2 * 2 ^ (l + 1) := by rw [Nat.pow_succ]; omega
    have e1 : 2 ^ (l + 2) / 2 = 2 ^ (l + 1) := by rw [show l + 2 = l + 1 + 1 from rfl, e2]; omega
    have ev : 2 ^ (l + 2) % 2 = 0 := by rw [show l + 2 = l + 1 + 1 from rfl, e2]; omega
    have F0 := side_full (s := 0) F O ev (by decide)
    have F1 := side_full (s := 1) F O ev (by decide)
    have e1' : 2 ^ (l + 1 + 1) / 2 = 2 ^ (l + 1) := e1
    rw [e1'] at F0 F1
    obtain ⟨a0, b0, c0⟩ := sets_shape l _ _ F0 h0
    obtain ⟨a1, b1, c1⟩ := sets_shape l _ _ F1 h1
    have hz : ∀ r ∈ List.zipWith (fun a b => a ++ b) s0 s1, ∃ x ∈ s0, ∃ y ∈ s1, r = x ++ y := by
      intro r hr
      obtain ⟨i, hi, e⟩ := List.mem_iff_getElem.mp hr
      rw [List.getElem_zipWith] at e
      exact ⟨_, List.getElem_mem _, _, List.getElem_mem _, e.symm⟩
    have bb : ∀ i, i < 2 ^ (l + 2) → at0 hf i = 0 ∨ at0 hf i = 1 := fun i hi => by have := O.bit i hi; omega
    refine ⟨?_, fun r hr => ?_, fun r hr b hb => ?_⟩
    · rw [List.length_append, List.length_append, List.length_zipWith, a0, a1]
      show 1 + _ + 1 = _
      omega
    · rcases List.mem_append.mp hr with hr | hr
      · rcases List.mem_append.mp hr with hr | hr
        · rw [List.mem_singleton.mp hr]; unfold firstL; rw [List.length_map, List.length_range, e1]
        · obtain ⟨x, hx, y, hy, rfl⟩ := hz r hr
          rw [List.length_append, b0 x hx, b1 y hy, Nat.pow_succ]
          omega
      · rw [List.mem_singleton.mp hr]; unfold lastL; rw [List.length_map, List.length_range, e1]
    · rcases List.mem_append.mp hr with hr | hr
      · rcases List.mem_append.mp hr with hr | hr
        · rw [List.mem_singleton.mp hr] at hb
          obtain ⟨k, hk, rfl⟩ := List.mem_map.mp hb
          exact bb _ (by have := List.mem_range.mp hk; omega)
        · obtain ⟨x, hx, y, hy, rfl⟩ := hz r hr
          rcases List.mem_append.mp hb with hb | hb
          · exact c0 x hx b hb
          · exact c1 y hy b hb
      · rw [List.mem_singleton.mp hr] at hb
        obtain ⟨k, hk, rfl⟩ := List.mem_map.mp hb
        exact bb _ (F.inv_lt (by have := List.mem_range.mp hk; omega))
end Ck
/-! ## text K61Q -/
set_option Elab.async false
set_option linter.all false
set_option maxRecDepth 100000
set_option maxHeartbeats 4000000
namespace Ck
open PySem PySem.Spec PyProof.Rows L2
def rLenE (K : PySem.W.Frag) : List V → Hp → VK → Prop := fun xs H Q => ∃ p ys v, xs = [V.ref p] ∧ (SqL K H p ys ∨ SqT K H p ys) ∧ V.int ((ys.length : Nat) : Int) = v ∧ Q v H
theorem call_lenE {X : Cx} : CallR X (.builtin "len") (rLenE X.K) := by
  intro pins s σ H xs us Q I r h
  obtain ⟨p, ys, v, e, hq, rfl, q⟩ := h
  exact call_len_seq pins s σ H xs us Q I r ⟨p, ys, e, hq, q⟩
/-- settings all of new lists -/
def SetNew (H H' : Hp) (S : Addr) (ss : List (List Nat)) : Prop := ∃ rs : List Addr, H S = none ∧ (∀ r ∈ rs, H r = none) ∧ H' S = some (.lst (rs.map V.ref)) ∧ ListsAt H' rs (ss.map fun r => r.map nv)
theorem SetNew.at {H H' : Hp} {S : Addr} {ss : List (List Nat)} (h : SetNew H H' S ss) : SetAt H' S ss := by
  obtain ⟨rs, _, _, h1, h2⟩ := h
  exact ⟨rs, h1, h2⟩
/-- a comprehension's list of new lists -/
def LcL (H1 : Hp) (D : Addr) (rows : Nat → List (List V)) (i : Nat) (H : Hp) : Prop := Same H1 H ∧ ∃ ts, H D = some (.lst (ts.map V.ref)) ∧ ListsAt H ts (rows i) ∧ ∀ t ∈ ts, H1 t = none ∧ t ≠ D
theorem lcL_start {H1 : Hp} {D : Addr} {rows : Nat → List (List V)} (nD : H1 D = none) (h : rows 0 = []) : LcL H1 D rows 0 (upd H1 D (.lst [])) := ⟨same_upd nD, [], upd_same, by rw [h]; exact .nil, fun t ht => by cases ht⟩
theorem paired_keep {D : Addr} {H : Hp} {o : HO} {G : Addr → List V → Prop} : ∀ {ts : List Addr} {rows : List (List V)}, Paired (fun t r => H t = some (.lst r)) ts rows → (∀ t ∈ ts, t ≠ D) → Paired (fun t r => upd H D o t = some (.lst r)) ts rows
  | _, _, .nil, _ => .nil
  | _, _, .cons h t, k => .cons (by rw [upd_ne (k _ List.mem_cons_self)]; exact h) (paired_keep (G := G) t fun a ha => k a (List.mem_cons_of_mem _ ha))
theorem ListsAt.put {H : Hp} {ts : List Addr} {rows : List (List V)} {D : Addr} {o : HO} (t : ListsAt H ts rows) (k : ∀ t ∈ ts, t ≠ D) : ListsAt (upd H D o) ts rows := paired_keep (G := fun _ _ => True) t k
theorem lcL_put {H1 H : Hp} {D p : Addr} {rows : Nat → List (List V)} {i : Nat} {r : List V} (nD : H1 D = none) (q : LcL H1 D rows i H) (np : H p = none) (e : rows (i + 1) = rows i ++ [r]) (hl : (rows i).length ≤ 100) :
    ∃ a, upd H p (.lst r) D = some (.lst a) ∧ a.length < sizeLine ∧ LcL H1 D rows (i + 1) (upd (upd H p (.lst r)) D (.lst (a ++ [.ref p]))) := by
  obtain ⟨s, ts, hD, ht, hn⟩ := q
  have nDp : D ≠ p := ne_of_none hD np
  have hD' : upd H p (.lst r) D = some (.lst (ts.map V.ref)) := by rw [upd_ne nDp]; exact hD
  refine ⟨ts.map V.ref, hD', ?_, Same.up (s.trans (same_upd np)) nD, ts ++ [p], ?_, ?_, ?_⟩
  · rw [List.length_map, ht.length]; exact small hl
  · rw [upd_same, List.map_append]; rfl
  · rw [e]
    refine ListsAt.put (paired_snoc (ht.same (same_upd np)) (by rw [upd_same])) fun t h => ?_
    rcases List.mem_append.mp h with h | h
    · exact (hn t h).2
    · rw [List.mem_singleton.mp h]; exact Ne.symm nDp
  · intro t h
    rcases List.mem_append.mp h with h | h
    · exact hn t h
    · rw [List.mem_singleton.mp h]
      exact ⟨s.free np, Ne.symm nDp⟩
def InnP (l : Nat) (full hf : List Nat) (n : Nat) (In : Addr) (i : Nat) (H : Hp) : Prop := ∃ ts : List Addr, H In = some (.lst (ts.map V.ref)) ∧ ts.length = i ∧
  ∀ j t, ts[j]? = some t → ∃ (ss : List (List Nat)) (rs : List Addr), t ≠ In ∧ (∀ r ∈ rs, r ≠ In) ∧ H t = some (.lst (rs.map V.ref)) ∧ ListsAt H rs (ss.map fun r => r.map nv) ∧ Sets (l + 1) (sideL full hf n j) ss
theorem InnP.same {l : Nat} {full hf : List Nat} {n i : Nat} {In : Addr} {H H' : Hp} (h : InnP l full hf n In i H) (s : Same H H') : InnP l full hf n In i H' := by
  obtain ⟨ts, h1, h2, h3⟩ := h
  refine ⟨ts, s _ _ h1, h2, fun j t e => ?_⟩
  obtain ⟨ss, rs, a, b, c, d, f⟩ := h3 j t e
  exact ⟨ss, rs, a, b, s _ _ c, d.same s, f⟩
theorem InnP.put {l : Nat} {full hf : List Nat} {n i : Nat} {In S : Addr} {H H' : Hp} {ss : List (List Nat)} (h : InnP l full hf n In i H) (s : Same H H') (k : SetNew H H' S ss) (q : Sets (l + 1) (sideL full hf n i) ss) :
    ∃ ts : List Addr, H' In = some (.lst (ts.map V.ref)) ∧ ts.length = i ∧ InnP l full hf n In (i + 1) (upd H' In (.lst (ts.map V.ref ++ [.ref S]))) := by
  obtain ⟨ts, h1, h2, h3⟩ := h
  obtain ⟨rs, k1, k2, k3, k4⟩ := k
  refine ⟨ts, s _ _ h1, h2, ts ++ [S], by rw [upd_same, List.map_append]; rfl, by rw [List.length_append, h2]; rfl, fun j t e => ?_⟩
  by_cases c : j < ts.length
  · rw [List.getElem?_append_left c] at e
    obtain ⟨ss, rs, a, b, c, d, f⟩ := h3 j t e
    exact ⟨ss, rs, a, b, by rw [upd_ne a]; exact s _ _ c, ListsAt.put (d.same s) b, f⟩
  · rw [List.getElem?_append_right (by omega)] at e
    have e2 : j = i := by
      have := (List.getElem?_eq_some_iff.mp e).1
      have : j - ts.length < 1 := this
      omega
    subst e2
    rw [show j - ts.length = 0 by omega] at e
    have e : S = t := Option.some.inj e
    subst e
    have nS : S ≠ In := fun z => by rw [z, h1] at k1; cases k1
    have nR : ∀ r ∈ rs, r ≠ In := fun r hr z => by
      have := k2 r hr
      rw [z, h1] at this
      cases this
    exact ⟨ss, rs, nS, nR, by rw [upd_ne nS]; exact k3, ListsAt.put k4 nR, q⟩
theorem zipW_take {a b : List (List Nat)} {i : Nat} {x y : List Nat} (h1 : a[i]? = some x) (h2 : b[i]? = some y) : (List.zipWith (fun a b => a ++ b) a b).take (i + 1) = (List.zipWith (fun a b => a ++ b) a b).take i ++ [x ++ y] := by
  have e : (List.zipWith (fun a b => a ++ b) a b)[i]? = some (x ++ y) := by
    rw [List.getElem?_zipWith, h1, h2]
  rw [List.take_add_one, e]
  rfl
section
variable {P : Program} {w : World} {K : PySem.W.Frag} {mg : Str → Option Value} {base : Heap}
/-! ### settings_for -/
abbrev nS : List Str := ["pairs", "full", "many", "half", "first", "back", "last", "inner", "side", "row", "gate", "middle", "place", "upper", "lower"]
def spSettings (K : PySem.W.Frag) (L : Nat) : Sp := fun vs H Q _ => ∃ (a : Addr) (ps : List (Option Nat)) (l : Nat), vs = [.ref a] ∧ H a = some (.tup (ps.map ov)) ∧ Valid ps (2 ^ (l + 1)) ∧ l < L ∧ L ≤ 4 ∧ TT K H ∧
  ∀ S H' ss, Same H H' → SetNew H H' S ss → Sets (l + 1) (fullOf ps) ss → Q (.ref S) H'
theorem sc_settings : FnScope nS ["pairs"] (defScope dSettingsFor) := ⟨rfl, rfl, rfl, by decide +kernel, rfl, by decide +kernel, by decide +kernel⟩
theorem g_settings_step (T : Tx K mg) (GC : GDef P w K mg base "check_pairing" 3 ["pairs", "many"] (spCheckPairing K)) (GF : GDef P w K mg base "filled" 1 ["pairs"] spFilled) (GL : GDef P w K mg base "logarithm" 1 ["many"] spLogarithm)
    (GT : GDef P w K mg base "turned_over" 1 ["pairs"] spTurnedOver) (GH : GDef P w K mg base "halves_of" 2 ["pairs"] spHalvesOf) (L k : Nat) (hk : 3 ≤ k)
    (GS : GDef P w K mg base "settings_for" k ["pairs"] (spSettings K L)) : GDef P w K mg base "settings_for" (k + 1) ["pairs"] (spSettings K (L + 1)) := by
  refine gdef (st := dSettingsFor) T (by unfold fn defs1; simp) (by unfold faG; simp) sc_settings (fun vs H Q E h => ?_) (fun _ _ _ _ _ _ us hl => match us, hl with | [_], _ => rfl) (fun f cdv A outer s H vs Q E ec hr h => ?_)
  · obtain ⟨a, ps, l, rfl, _⟩ := h
    rfl
  · obtain ⟨a, ps, l, rfl, ha, va, hl, hL, tt, kk⟩ := h
    have nd := sc_settings.nd
    refine ⟨_, pss_cons (ps_set (i := 1) nd rfl (.inl rfl) (pe_g GF (hr.mono (by omega)) (by rfl) (pa_cons (pe_g GC (hr.mono (by omega)) (by rfl) (pa_cons (pv 0) (pa_cons (pe_callB call_len_seq (by rfl) T.len PySem.boot_len (pa_cons (pv 0) pa_nil)) pa_nil))) pa_nil)))
      (pss_cons (ps_set (i := 2) nd rfl (.inl rfl) (pe_callB call_lenE (by rfl) T.len PySem.boot_len (pa_cons (pv 1) pa_nil)))
      (pss_cons (ps_if (pt_cmpR op_eq (pv 2) pe_int (nomark _)) (pss_one (ps_ret (pe_lst (pa_cons (pe_lst (pa_cons (pe_ix ix_seq (pv 1) pe_int (fun _ _ => rfl)) pa_nil)) pa_nil)))) pss_nil)
      (pss_cons (ps_if (pt_cmpR op_lt (pe_g GL (hr.mono (by omega)) (by rfl) (pa_cons (pv 2) pa_nil)) pe_int (nomark _)) (pss_one ps_never) pss_nil)
      (pss_cons (ps_set (i := 3) nd rfl (.inr rfl) (pe_g GH (hr.mono (by omega)) (by rfl) (pa_cons (pv 1) pa_nil)))
      (pss_cons (ps_setLc (i := 4) (own := [("place", 12)]) (g := gName 12) (tt := tYes) rfl nd rfl rfl (sw_true rfl rfl rfl (by decide +kernel)) (pi_range1 (by rfl) T.range (pa_cons (pe_op op_fdivE (pv 2) pe_int) pa_nil))
        (blkOk_by (N := nS) (sc := defScope dSettingsFor) (by decide +kernel)) (fun _ _ _ _ _ => pg_name (i := 12) nd rfl (Or.inl rfl)) (fun _ _ _ _ _ => pts_nil)
        (fun _ _ _ _ _ => pe_ix (r := rIx K) ix_seq (pv 3) (pe_op op_mulE pe_int (pv 12)) (fun _ _ => rfl)))
      (pss_cons (ps_set (i := 5) nd rfl (.inr rfl) (pe_g GT (hr.mono (by omega)) (by rfl) (pa_cons (pv 1) pa_nil)))
      (pss_cons (ps_setLc (i := 6) (own := [("place", 12)]) (g := gName 12) (tt := tYes) rfl nd rfl rfl (sw_true rfl rfl rfl (by decide +kernel)) (pi_range1 (by rfl) T.range (pa_cons (pe_op op_fdivE (pv 2) pe_int) pa_nil))
        (blkOk_by (N := nS) (sc := defScope dSettingsFor) (by decide +kernel)) (fun _ _ _ _ _ => pg_name (i := 12) nd rfl (Or.inl rfl)) (fun _ _ _ _ _ => pts_nil)
        (fun _ _ _ _ _ => pe_ix (r := rIx K) (tb := tOp (rIx K) (tVar 5) (tOp (rEC CMul fun i j => i * j) (tC (.int 2)) (tVar 12))) ix_seq (pv 3) (pe_ix (r := rIx K) ix_seq (pv 5) (pe_op op_mulE pe_int (pv 12)) (fun _ _ => rfl)) (fun _ _ => rfl)))
      (pss_cons (ps_set (i := 7) nd rfl (.inl rfl) (pe_lst pa_nil))
      (pss_cons (ps_for PassesOwn.never rfl (pi_range1 (by rfl) T.range (pa_cons pe_int pa_nil)) (pg_name (i := 8) nd rfl (Or.inl rfl))
        (pss_cons (ps_set (i := 9) nd rfl (.inl rfl) (pe_op op_rep (pe_lst (pa_cons pe_non pa_nil)) (pe_op op_fdivE (pv 2) pe_int)))
        (pss_cons (ps_for PassesOwn.never rfl (pi_range1 (by rfl) T.range (pa_cons (pv 2) pa_nil)) (pg_name (i := 10) nd rfl (Or.inl rfl))
          (pss_one (ps_if (pt_cmpR op_eq (pe_ix ix_seq (pv 3) (pv 10) (fun _ _ => rfl)) (pv 8) (nomark _)) (pss_one (ps_asg (pe_op op_fdivE (pe_ix ix_seq (pv 1) (pv 10) (fun _ _ => rfl)) pe_int) (pg_sub (pv 9) (pe_op op_fdivE (pv 10) pe_int) set_list))) pss_nil)))
        (pss_one (ps_expr (pe_bm PySem.F.plainAttrs_list PySem.F.slot_list_append PySem.F.type_list_append mt_append (pv 7) (pa_cons (pe_g GS hr (by rfl) (pa_cons (pe_tupleOf (by rfl) T.tuple (pv 9)) pa_nil)) pa_nil)))))))
      (pss_cons (ps_setLc (i := 11) (own := [("upper", 13), ("lower", 14)]) (g := gTup K 2 (gCons (gName 13) (gCons (gName 14) gNil))) (tt := tYes) rfl nd rfl rfl (sw_true rfl rfl rfl (by decide +kernel))
        (pi_zip (by rfl) T.zip (pa_cons (pe_ix ix_seq (pv 7) pe_int (fun _ _ => rfl)) (pa_cons (pe_ix ix_seq (pv 7) pe_int (fun _ _ => rfl)) pa_nil)))
        (blkOk_by (N := nS) (sc := defScope dSettingsFor) (by decide +kernel)) (fun _ _ _ _ _ => pg_tup rfl (pgs_cons (pg_name (i := 13) nd rfl (Or.inl rfl)) (pgs_cons (pg_name (i := 14) nd rfl (Or.inl rfl)) pgs_nil))) (fun _ _ _ _ _ => pts_nil)
        (fun _ _ _ _ _ => pe_op op_cat (pv 13) (pv 14)))
      (pss_one (ps_ret (pe_op op_cat (pe_op op_cat (pe_lst (pa_cons (pv 4) pa_nil)) (pv 11)) (pe_lst (pa_cons (pv 6) pa_nil))))))))))))))), ?_⟩
    have pp : 2 ^ (l + 1) = 2 * 2 ^ l := by rw [Nat.pow_succ]; omega
    have p0 : 0 < 2 ^ l := Nat.pow_pos (by decide)
    have p3 : 2 ^ l ≤ 2 ^ 3 := Nat.pow_le_pow_right (by decide) (by omega)
    have n100 : 2 ^ (l + 1) ≤ 100 := by omega
    have ev : 2 ^ (l + 1) % 2 = 0 := by omega
    have hv2 : 2 ^ (l + 1) / 2 = 2 ^ l := by omega
    generalize hn : 2 ^ (l + 1) = n at *
    have Ff := full_of va
    generalize hfu : fullOf ps = full at *
    refine ⟨_, rfl, _, rfl, a, _, rfl, .inr (SqT.of ha), a, ps, n, by rw [List.length_map, va.len]; rfl, ha, va, n100, tt, fun H1 s1 => ?_⟩
    refine ⟨a, ps, n, rfl, s1 _ _ ha, va, n100, fun pf H2 s2 npf hpf => ?_⟩
    rw [hfu] at hpf
    have s02 := s1.trans s2
    refine ⟨_, rfl, pf, _, nv n, rfl, .inr (SqT.of hpf), by rw [List.length_map, Ff.len]; rfl, ?_⟩
    refine ⟨_, rfl, rfl, _, rfl, ?_⟩
    cases l with
    | zero =>
      refine iteD (by rw [← hn]; rfl) ?_
      refine ⟨_, rfl, .inr (.inl ⟨pf, _, _, nv (at0 full 0), rfl, rfl, SqT.of hpf, at_nv (i := 0) (by rw [Ff.len]; omega), show 1 ≤ sizeLine by decide, fun L1 nL1 => ?_⟩)⟩
      refine ⟨show 1 ≤ sizeLine by decide, fun L2 nL2 => ?_⟩
      have q1 := same_upd (o := .lst [nv (at0 full 0)]) nL1
      have q2 := same_upd (o := .lst [.ref L1]) nL2
      refine kk L2 _ [[at0 full 0]] ((s02.trans q1).trans q2) ⟨[L1], (s02.trans q1).free nL2, fun r hr => ?_, upd_same, .cons (q2 _ _ upd_same) .nil⟩ rfl
      rw [List.mem_singleton.mp hr]
      exact s02.free nL1
    | succ l =>
      have ppl : 2 ^ (l + 1) = 2 * 2 ^ l := by rw [Nat.pow_succ]; omega
      have pl0 : 0 < 2 ^ l := Nat.pow_pos (by decide)
      refine iteDF (fun z => by have z1 := V.int.inj z; omega) ?_
      refine ⟨_, rfl, l + 1 + 1, by rw [hn]; rfl, by omega, fun H3 s3 => ⟨_, _, rfl, rfl, _, rfl, iteDF (by omega) ?_⟩⟩
      have hpf3 := s3 _ _ hpf
      refine ⟨_, rfl, pf, full, n, rfl, hpf3, Ff, ev, n100, fun ph H4 hf s4 nph hph O => ?_⟩
      have F0 := side_full (s := 0) Ff O ev (by decide)
      have F1 := side_full (s := 1) Ff O ev (by decide)
      have s04 := (s02.trans s3).trans s4
      have hpf4 := s4 _ _ hpf3
      have hlf := O.len
      have efd : V.int ((fun i j : Int => i / j) ((n : Nat) : Int) 2) = nv (n / 2) := by
        show V.int ((n : Int) / 2) = V.int ((n / 2 : Nat) : Int)
        congr 1
      have en2 : (((n / 2 : Nat) : Int)).toNat = n / 2 := by omega
      -- first
      refine ⟨_, rfl, _, _, nv (n / 2), rfl, rfl, ⟨by decide, by decide⟩, efd, _, rfl, by omega, by omega, fun D1 nD1 => ?_⟩
      refine lc_it walk_range (LcP H4 D1 fun i => ((List.range i).map fun k => at0 hf (2 * k)).map nv) (lc_start nD1 rfl) (fun _ _ _ _ => trivial) (fun i x H5 H6 hi p y => ?_) (fun H5 p => ?_)
      · obtain ⟨rfl, hx⟩ := y
        have hx : x = nv i := by rw [hx]; show V.int _ = V.int _; rw [Int.zero_add]
        subst hx
        have hi : i < n / 2 := by omega
        refine ⟨rfl, tyes ?_⟩
        refine ⟨_, rfl, _, rfl, _, _, nv (2 * i), rfl, rfl, .inl ⟨by decide, by decide⟩, ?_, .inr (.inl ⟨ph, _, _, _, rfl, rfl, SqT.of (p.1 _ _ hph), at_nv (by rw [hlf]; omega), ?_⟩)⟩
        · show V.int _ = V.int _
          congr 1
        · refine lc_put nD1 p (Same.refl _) ?_ (by rw [List.length_map, List.length_map, List.length_range]; omega)
          rw [rmap_succ, List.map_append]
          rfl
      have hD1 : H5 D1 = some (.lst ((firstL hf n).map nv)) := by
        refine p.2.trans ?_
        show some (HO.lst (((List.range (((n / 2 : Nat) : Int)).toNat).map fun k => at0 hf (2 * k)).map nv)) = _
        rw [en2]
        rfl
      have s45 := p.1
      -- back
      refine ⟨_, rfl, pf, full, n, rfl, s45 _ _ hpf4, Ff, n100, fun pb H6 s6 npb hpb => ?_⟩
      have hph6 := s6 _ _ (s45 _ _ hph)
      have hD16 := s6 _ _ hD1
      have hpf6 := s6 _ _ (s45 _ _ hpf4)
      -- last
      refine ⟨_, rfl, _, _, nv (n / 2), rfl, rfl, ⟨by decide, by decide⟩, efd, _, rfl, by omega, by omega, fun D2 nD2 => ?_⟩
      refine lc_it walk_range (LcP H6 D2 fun i => ((List.range i).map fun k => at0 hf (at0 (invL full n) (2 * k))).map nv) (lc_start nD2 rfl) (fun _ _ _ _ => trivial) (fun i x H7 H8 hi p y => ?_) (fun H7 p => ?_)
      · obtain ⟨rfl, hx⟩ := y
        have hx : x = nv i := by rw [hx]; show V.int _ = V.int _; rw [Int.zero_add]
        subst hx
        have hi : i < n / 2 := by omega
        refine ⟨rfl, tyes ?_⟩
        refine ⟨_, rfl, _, rfl, _, rfl, _, _, nv (2 * i), rfl, rfl, .inl ⟨by decide, by decide⟩, ?_, .inr (.inl ⟨pb, _, _, _, rfl, rfl, SqT.of (p.1 _ _ hpb), at_nv (by rw [invL_len]; omega), ?_⟩)⟩
        · show V.int _ = V.int _
          congr 1
        · refine .inr (.inl ⟨ph, _, _, _, rfl, rfl, SqT.of (p.1 _ _ hph6), at_nv (by rw [hlf]; exact Ff.inv_lt (by omega)), ?_⟩)
          refine lc_put nD2 p (Same.refl _) ?_ (by rw [List.length_map, List.length_map, List.length_range]; omega)
          rw [rmap_succ, List.map_append]
          rfl
      have hD2 : H7 D2 = some (.lst ((lastL full hf n).map nv)) := by
        refine p.2.trans ?_
        show some (HO.lst (((List.range (((n / 2 : Nat) : Int)).toNat).map fun k => at0 hf (at0 (invL full n) (2 * k))).map nv)) = _
        rw [en2]
        rfl
      have s67 := p.1
      have s07 : Same H H7 := ((s04.trans s45).trans s6).trans s67
      have nD10 : H D1 = none := s04.free nD1
      have nD20 : H D2 = none := ((s04.trans s45).trans s6).free nD2
      have hph7 := s67 _ _ hph6
      have hpf7 := s67 _ _ hpf6
      have hD17 := s67 _ _ hD16
      -- inner
      refine ⟨Nat.zero_le _, fun In nIn => ?_⟩
      refine ⟨_, rfl, by omega, by omega, ?_⟩
      refine for_it walk_range (fun i σ G => (∃ x8 x9 x10 x11 x12 x13 x14, σ = [some (.ref a), some (.ref pf), some (nv n), some (.ref ph), some (.ref D1), some (.ref pb), some (.ref D2), some (.ref In), x8, x9, x10, x11, x12, x13, x14]) ∧ Same H7 G ∧ InnP l full hf n In i G)
        ⟨⟨_, _, _, _, _, _, _, rfl⟩, same_upd nIn, [], upd_same, rfl, fun j t e => by simp at e⟩ (fun _ _ _ _ _ => trivial) (fun i x σ G G' hi p y => ?_) (fun σ G p => ?_)
      · obtain ⟨⟨x8, x9, x10, x11, x12, x13, x14, rfl⟩, sG, IG⟩ := p
        obtain ⟨rfl, hx⟩ := y
        have hx : x = nv i := by rw [hx]; show V.int _ = V.int _; rw [Int.zero_add]
        subst hx
        have hi : i < 2 := hi
        refine ⟨show 1 ≤ sizeLine by decide, fun L1 nL1 => ?_⟩
        have q1 := same_upd (o := .lst [V.non]) nL1
        have hL1 : upd G' L1 (.lst [V.non]) L1 = some (.lst [V.non]) := upd_same
        generalize upd G' L1 (.lst [V.non]) = G1 at *
        refine ⟨_, rfl, _, _, nv (n / 2), rfl, rfl, ⟨by decide, by decide⟩, efd, L1, _, _, rfl, rfl, hL1, by omega, by omega, ?_, fun Rw nRw => ?_⟩
        · show 1 * (((n / 2 : Nat) : Int)).toNat ≤ sizeLine
          have := small' n100
          omega
        have e0 : (List.replicate (((n / 2 : Nat) : Int)).toNat [V.non]).flatten = (rowP full hf n i 0).map ov := by
          rw [flat1, rowP_zero, List.map_replicate, en2]
          rfl
        rw [e0]
        have nRG : G' Rw = none := q1.free nRw
        refine ⟨_, rfl, _, rfl, by omega, by omega, ?_⟩
        refine for_it walk_range (fun j σ G2 => (∃ y10, σ = [some (.ref a), some (.ref pf), some (nv n), some (.ref ph), some (.ref D1), some (.ref pb), some (.ref D2), some (.ref In), some (nv i), some (.ref Rw), y10, x11, x12, x13, x14]) ∧ Same G' G2 ∧ G2 Rw = some (.lst ((rowP full hf n i j).map ov)))
          ⟨⟨_, rfl⟩, q1.trans (same_upd nRw), upd_same⟩ (fun _ _ _ _ _ => trivial) (fun j x σ G2 G3 hj p y => ?_) (fun σ G2 p => ?_)
        · obtain ⟨⟨y10, rfl⟩, sG2, hRw⟩ := p
          obtain ⟨rfl, hx⟩ := y
          have hx : x = nv j := by rw [hx]; show V.int _ = V.int _; rw [Int.zero_add]
          subst hx
          have hj : j < n := by omega
          have s73 := sG.trans sG2
          refine ⟨_, rfl, _, rfl, .inr (.inl ⟨ph, _, _, _, rfl, rfl, SqT.of (s73 _ _ hph7), at_nv (by rw [hlf]; exact hj), _, rfl, rfl, _, rfl, ?_⟩)⟩
          by_cases c : at0 hf j = i
          · refine iteD (by rw [c]) ?_
            refine ⟨_, rfl, _, rfl, .inr (.inl ⟨pf, _, _, _, rfl, rfl, SqT.of (s73 _ _ hpf7), at_nv (by rw [Ff.len]; exact hj), _, _, nv (at0 full j / 2), rfl, rfl, ⟨by decide, by decide⟩, ?_, ?_⟩)⟩
            · show V.int _ = V.int _
              congr 1
            · refine ⟨_, rfl, _, rfl, _, _, nv (j / 2), rfl, rfl, ⟨by decide, by decide⟩, ?_, Rw, _, _, j / 2, rfl, rfl, hRw, ixN_nat (by rw [List.length_map, rowP_len]; omega), ⟨_, rfl⟩, Same.up sG2 nRG, ?_⟩
              · show V.int _ = V.int _
                congr 1
              · rw [upd_same, rowP_set O ev hj c, List.map_set]
                rfl
          · refine iteDF (fun z => c (by have z1 := V.int.inj z; omega)) ?_
            exact ⟨⟨_, rfl⟩, sG2, by rw [rowP_skip O hi hj c]; exact hRw⟩
        · obtain ⟨⟨y10, rfl⟩, sG2, hRw⟩ := p
          have en : ((n : Nat) : Int).toNat = n := by omega
          rw [en, rowP_end] at hRw
          have IG2 := IG.same sG2
          obtain ⟨ts0, hIn, _⟩ := id IG2
          refine ⟨_, rfl, .inl ⟨rfl, _, SqL.of hIn⟩, ?_⟩
          refine ⟨_, rfl, .inl ⟨Rw, _, rfl, SqL.of hRw, fun pt nPt => ?_⟩⟩
          have q3 := same_upd (o := .tup (((sideL full hf n i).map some).map ov)) nPt
          have Fi : Full (sideL full hf n i) (2 ^ (l + 1)) := by
            rw [← hv2]
            exact side_full Ff O ev hi
          refine ⟨pt, (sideL full hf n i).map some, l, rfl, upd_same, Fi.valid, by omega, by omega, tt.same (((s07.trans sG).trans sG2).trans q3), fun S G4 ss s34 kS hS => ?_⟩
          rw [fullOf_some] at hS
          obtain ⟨ts, hI4, lts, IG4⟩ := (IG2.same q3).put s34 kS hS
          refine ⟨In, _, _, rfl, rfl, hI4, small (by rw [List.length_map, lts]; omega), ⟨_, _, _, _, _, _, _, rfl⟩, ?_, IG4⟩
          exact Same.up (((sG.trans sG2).trans q3).trans s34) nIn
      · obtain ⟨⟨x8, x9, x10, x11, x12, x13, x14, rfl⟩, sG, ts, hIn, lts, hts⟩ := p
        have lts : ts.length = 2 := lts
        obtain ⟨t0, t1, rfl⟩ : ∃ t0 t1, ts = [t0, t1] := by
          match ts, lts with
          | [t0, t1], _ => exact ⟨t0, t1, rfl⟩
        obtain ⟨ss0, rs0, _, _, h0, l0, S0⟩ := hts 0 t0 rfl
        obtain ⟨ss1, rs1, _, _, h1, l1, S1⟩ := hts 1 t1 rfl
        have F0' : Full (sideL full hf n 0) (2 ^ (l + 1)) := by rw [← hv2]; exact F0
        have F1' : Full (sideL full hf n 1) (2 ^ (l + 1)) := by rw [← hv2]; exact F1
        obtain ⟨a0, b0, _⟩ := sets_shape l _ _ F0' S0
        obtain ⟨a1, b1, _⟩ := sets_shape l _ _ F1' S1
        have lr0 : rs0.length = ss0.length := by rw [l0.length, List.length_map]
        have lr1 : rs1.length = ss1.length := by rw [l1.length, List.length_map]
        have lz : (List.zipWith (fun a b => a ++ b) ss0 ss1).length = 2 * l + 1 := by rw [List.length_zipWith, a0, a1]; omega
        -- middle
        refine ⟨_, rfl, .inl ⟨In, _, _, .ref t0, rfl, rfl, SqL.of hIn, rfl, _, rfl, .inl ⟨In, _, _, .ref t1, rfl, rfl, SqL.of hIn, rfl, t0, t1, _, _, rfl, SqL.of h0, SqL.of h1, fun Dm nDm => ?_⟩⟩⟩
        refine lc_it (walk_zip (n := 2 * l + 1) (by rw [List.length_map, List.length_map, lr0, lr1, a0, a1]; omega)) (LcL G Dm fun i => ((List.zipWith (fun a b => a ++ b) ss0 ss1).take i).map fun r => r.map nv) (lcL_start nDm rfl)
          (fun i G2 _ p => ⟨SqL.of (p.1 _ _ h0), SqL.of (p.1 _ _ h1)⟩) (fun i x G2 G3 hi p y => ?_) (fun G2 p => ?_)
        · obtain ⟨Tt, u, v, rfl, nT, rfl, e1, e2⟩ := y
          obtain ⟨r0, hr0, rfl⟩ := ref_get e1
          obtain ⟨r1, hr1, rfl⟩ := ref_get e2
          obtain ⟨z0, w0, g0⟩ := l0.row hr0
          obtain ⟨q0, w0', rfl⟩ := rows_get w0
          obtain ⟨z1, w1, g1⟩ := l1.row hr1
          obtain ⟨q1, w1', rfl⟩ := rows_get w1
          have sT := same_upd (o := .tup [V.ref r0, V.ref r1]) nT
          refine ⟨Tt, _, rfl, SqT.of upd_same, rfl, _, _, rfl, _, _, rfl, rfl, rfl, tyes ?_⟩
          refine ⟨_, rfl, _, rfl, r0, r1, _, _, rfl, rfl, sT _ _ (p.1 _ _ g0), sT _ _ (p.1 _ _ g1), ?_, fun q nq => ?_⟩
          · have x1 := b0 _ (List.mem_of_getElem? w0')
            have x2 := b1 _ (List.mem_of_getElem? w1')
            have := small' n100
            rw [List.length_map, List.length_map, x1, x2]
            omega
          · rw [← List.map_append]
            have p' : LcL G Dm (fun i => ((List.zipWith (fun a b => a ++ b) ss0 ss1).take i).map fun r => r.map nv) i (upd G2 Tt (.tup [V.ref r0, V.ref r1])) := by
              obtain ⟨pa, tz, pb, pc, pd⟩ := p
              exact ⟨pa.trans sT, tz, sT _ _ pb, pc.same sT, pd⟩
            refine lcL_put nDm p' nq ?_ ?_
            · show ((List.zipWith (fun a b => a ++ b) ss0 ss1).take (i + 1)).map _ = _
              rw [zipW_take w0' w1', List.map_append]
              rfl
            · rw [List.length_map, List.length_take]
              omega
        · obtain ⟨sZ, ms, hDm, hms, nms⟩ := p
          have hms : ListsAt G2 ms ((List.zipWith (fun a b => a ++ b) ss0 ss1).map fun r => r.map nv) := by
            have e : (fun i => ((List.zipWith (fun a b => a ++ b) ss0 ss1).take i).map fun r => r.map nv) (2 * l + 1) = (List.zipWith (fun a b => a ++ b) ss0 ss1).map fun r => r.map nv := by
              show ((List.zipWith (fun a b => a ++ b) ss0 ss1).take (2 * l + 1)).map _ = _
              rw [← lz, List.take_length]
            exact e ▸ hms
          have lms : ms.length = 2 * l + 1 := by rw [hms.length, List.length_map, lz]
          refine ⟨_, rfl, show 1 ≤ sizeLine by decide, fun A1 nA1 => ?_⟩
          have q1 := same_upd (o := .lst [V.ref D1]) nA1
          have hA1 : upd G2 A1 (.lst [V.ref D1]) A1 = some (.lst [V.ref D1]) := upd_same
          generalize upd G2 A1 (.lst [V.ref D1]) = G3 at *
          refine ⟨_, rfl, A1, Dm, _, _, rfl, rfl, hA1, q1 _ _ hDm, ?_, fun B1 nB1 => ?_⟩
          · rw [List.length_map, lms]
            exact small' (by show 1 + _ ≤ 100; omega)
          have q2 := same_upd (o := .lst ([V.ref D1] ++ ms.map V.ref)) nB1
          have hB1 : upd G3 B1 (.lst ([V.ref D1] ++ ms.map V.ref)) B1 = some (.lst ([V.ref D1] ++ ms.map V.ref)) := upd_same
          generalize upd G3 B1 (.lst ([V.ref D1] ++ ms.map V.ref)) = G4 at *
          refine ⟨_, rfl, show 1 ≤ sizeLine by decide, fun C1 nC1 => ?_⟩
          have q3 := same_upd (o := .lst [V.ref D2]) nC1
          have hC1 : upd G4 C1 (.lst [V.ref D2]) C1 = some (.lst [V.ref D2]) := upd_same
          generalize upd G4 C1 (.lst [V.ref D2]) = G5 at *
          refine ⟨B1, C1, _, _, rfl, rfl, q3 _ _ hB1, hC1, ?_, fun S nS => ?_⟩
          · rw [List.length_append, List.length_map, lms]
            exact small' (by show 1 + _ + 1 ≤ 100; omega)
          have q4 := same_upd (o := .lst ([V.ref D1] ++ ms.map V.ref ++ [V.ref D2])) nS
          have s2S := ((q1.trans q2).trans q3).trans q4
          have s7S := (sG.trans sZ).trans s2S
          refine kk S _ ([firstL hf n] ++ List.zipWith (fun a b => a ++ b) ss0 ss1 ++ [lastL full hf n]) (s07.trans s7S) ⟨[D1] ++ ms ++ [D2], ?_, ?_, ?_, ?_⟩ ?_
          · exact (((((s07.trans sG).trans sZ).trans q1).trans q2).trans q3).free nS
          · intro r hr
            rcases List.mem_append.mp hr with hr | hr
            · rcases List.mem_append.mp hr with hr | hr
              · rw [List.mem_singleton.mp hr]; exact nD10
              · exact (s07.trans sG).free (nms r hr).1
            · rw [List.mem_singleton.mp hr]; exact nD20
          · rw [upd_same, List.map_append, List.map_append]
            rfl
          · rw [List.map_append, List.map_append]
            refine paired_app ?_ (paired_app (hms.same s2S) ?_)
            · exact .cons (s7S _ _ hD2) .nil
            · exact .cons (s7S _ _ hD17) .nil
          · rw [← hn]
            refine ⟨hf, ss0, ss1, by rw [show 2 ^ (l + 2) = n from hn]; exact O, by rw [show 2 ^ (l + 2) = n from hn]; exact S0, by rw [show 2 ^ (l + 2) = n from hn]; exact S1, rfl⟩
end
end Ck
/-! ## text K61U -/
set_option Elab.async false
set_option linter.all false
set_option maxRecDepth 100000
set_option maxHeartbeats 4000000
namespace Ck
/-! ### exchanging two colours along a path -/
def vS (L R : Nat → Nat) (s i : Nat) : Nat := if s = 0 then L i else R i
def Snd (L R : Nat → Nat) (C : Nat → Option Nat) : Prop := ∀ i j c, C i = some c → C j = some c → i ≠ j → L i ≠ L j ∧ R i ≠ R j
def flp (a b c : Nat) : Nat := if c = a then b else a
theorem Snd.uniq {L R : Nat → Nat} {C : Nat → Option Nat} (S : Snd L R C) {s i j c : Nat} (h : vS L R s i = vS L R s j) (hi : C i = some c) (hj : C j = some c) : i = j := by
  refine Classical.byContradiction fun ne => ?_
  have := S i j c hi hj ne
  unfold vS at h
  split at h
  · exact this.1 h
  · exact this.2 h
structure XI (L R : Nat → Nat) (C : Nat → Option Nat) (a b start here : Nat) (found : List Nat) (side w c : Nat) : Prop where
  ab : (side = 1 ∧ c = a) ∨ (side = 0 ∧ c = b ∧ w ≠ here)
  i1 : ∀ e, e ∈ found → ∀ s, s < 2 → (s ≠ side ∨ vS L R s e ≠ w) → ∀ e', (C e' = some a ∨ C e' = some b) → vS L R s e' = vS L R s e → e' ∈ found
  i2 : ∀ e', vS L R side e' = w → C e' = some c → e' ∉ found
  i3 : ∀ e', vS L R side e' = w → C e' = some (flp a b c) → e' ∈ found
  i4 : (found = [] ∧ side = 1 ∧ w = start ∧ c = a) ∨ (∀ e', R e' = start → C e' = some a → e' ∈ found)
  i5 : ∀ e, e ∈ found → L e ≠ here
  edges : ∀ e, e ∈ found → C e = some a ∨ C e = some b
  nd : found.Nodup
variable {L R : Nat → Nat} {C : Nat → Option Nat} {a b start here side w c f : Nat} {found : List Nat}
theorem flp_a (a b : Nat) : flp a b a = b := by unfold flp; rw [if_pos rfl]
theorem flp_b {a b : Nat} (h : a ≠ b) : flp a b b = a := by unfold flp; rw [if_neg (Ne.symm h)]
theorem XI.init (nb : ∀ e, R e = start → C e ≠ some b) : XI L R C a b start here [] 1 start a :=
  ⟨.inl ⟨rfl, rfl⟩, fun e h => absurd h List.not_mem_nil, fun e _ _ h => absurd h List.not_mem_nil, fun e h1 h2 => absurd (by rw [flp_a] at h2; exact h2) (nb e h1), .inl ⟨rfl, rfl, rfl, rfl⟩, fun e h => absurd h List.not_mem_nil, fun e h => absurd h List.not_mem_nil, List.nodup_nil⟩
theorem XI.step (S : Snd L R C) (hab : a ≠ b) (na : ∀ e, L e = here → C e ≠ some a) (X : XI L R C a b start here found side w c) (hw : vS L R side f = w) (hc : C f = some c) :
    XI L R C a b start here (found ++ [f]) (1 - side) (vS L R (1 - side) f) (flp a b c) := by
  have hf : f ∉ found := X.i2 f hw hc
  have hs : side < 2 := by rcases X.ab with ⟨h, _⟩ | ⟨h, _⟩ <;> omega
  have cab : C f = some a ∨ C f = some b := by
    rcases X.ab with ⟨_, h⟩ | ⟨_, h, _⟩
    · exact .inl (h ▸ hc)
    · exact .inr (h ▸ hc)
  have cne : flp a b c ≠ c := by
    rcases X.ab with ⟨_, h⟩ | ⟨_, h, _⟩
    · rw [h, flp_a]; exact Ne.symm hab
    · rw [h, flp_b hab]; exact hab
  have ff : flp a b (flp a b c) = c := by
    rcases X.ab with ⟨_, h⟩ | ⟨_, h, _⟩
    · rw [h, flp_a, flp_b hab]
    · rw [h, flp_b hab, flp_a]
  have cc : ∀ e', (C e' = some a ∨ C e' = some b) → C e' = some c ∨ C e' = some (flp a b c) := by
    intro e' h
    rcases X.ab with ⟨_, q⟩ | ⟨_, q, _⟩
    · rw [q, flp_a]; exact h
    · rw [q, flp_b hab]; exact h.symm
  have Lf : L f ≠ here := by
    rcases X.ab with ⟨_, h⟩ | ⟨h0, _, hn⟩
    · exact fun z => na f z (h ▸ hc)
    · rw [h0] at hw
      intro z
      have hw : L f = w := hw
      exact hn (by rw [← hw, z])
  refine ⟨?_, fun e he s hs2 hv e' hab' hv' => ?_, fun e' h1 h2 => ?_, fun e' h1 h2 => ?_, ?_, fun e he => ?_, fun e he => ?_, ?_⟩
  · rcases X.ab with ⟨h, h'⟩ | ⟨h, h', _⟩
    · subst h
      exact .inr ⟨rfl, by rw [h', flp_a], Lf⟩
    · subst h
      exact .inl ⟨rfl, by rw [h', flp_b hab]⟩
  · -- i1
    have old : ∀ e0, e0 ∈ found → vS L R s e0 = vS L R s e → e' ∈ found ++ [f] := by
      intro e0 h0 hv0
      by_cases k : s ≠ side ∨ vS L R s e0 ≠ w
      · exact List.mem_append_left _ (X.i1 e0 h0 s hs2 k e' hab' (hv'.trans hv0.symm))
      · have k1 : s = side := Classical.byContradiction fun z => k (.inl z)
        have k2 : vS L R s e0 = w := Classical.byContradiction fun z => k (.inr z)
        subst k1
        have hw' : vS L R s e' = w := by rw [hv', ← hv0, k2]
        rcases cc e' hab' with q | q
        · have : e' = f := S.uniq (by rw [hw', hw]) q hc
          rw [this]
          exact List.mem_append_right _ (List.mem_singleton.mpr rfl)
        · exact List.mem_append_left _ (X.i3 e' hw' q)
    rcases List.mem_append.mp he with he | he
    · exact old e he rfl
    · rw [List.mem_singleton.mp he] at hv hv'
      have k1 : s = side := by
        rcases hv with hv | hv
        · omega
        · refine Classical.byContradiction fun z => hv ?_
          have : s = 1 - side := by omega
          rw [this]
      subst k1
      have hw' : vS L R s e' = w := by rw [hv', hw]
      rcases cc e' hab' with q | q
      · have : e' = f := S.uniq (by rw [hw', hw]) q hc
        rw [this]
        exact List.mem_append_right _ (List.mem_singleton.mpr rfl)
      · exact List.mem_append_left _ (X.i3 e' hw' q)
  · -- i2
    intro hm
    rcases List.mem_append.mp hm with hm | hm
    · exact hf (X.i1 e' hm (1 - side) (by omega) (.inl (by omega)) f cab h1.symm)
    · rw [List.mem_singleton.mp hm, hc] at h2
      exact cne (Option.some.inj h2).symm
  · -- i3
    rw [ff] at h2
    have : e' = f := S.uniq h1 h2 hc
    rw [this]
    exact List.mem_append_right _ (List.mem_singleton.mpr rfl)
  · -- i4
    refine .inr fun e' h1 h2 => ?_
    rcases X.i4 with ⟨h3, h4, h5, h6⟩ | h
    · have : e' = f := S.uniq (s := 1) (by rw [h4] at hw; rw [hw, h5]; exact h1) h2 (h6 ▸ hc)
      rw [this]
      exact List.mem_append_right _ (List.mem_singleton.mpr rfl)
    · exact List.mem_append_left _ (h e' h1 h2)
  · rcases List.mem_append.mp he with he | he
    · exact X.i5 e he
    · rw [List.mem_singleton.mp he]; exact Lf
  · rcases List.mem_append.mp he with he | he
    · exact X.edges e he
    · rw [List.mem_singleton.mp he]; exact cab
  · refine List.nodup_append.mpr ⟨X.nd, (by simp), fun x hx y hy z => ?_⟩
    rw [List.mem_singleton.mp hy] at z
    exact hf (z ▸ hx)
def flipC (C : Nat → Option Nat) (a b : Nat) (found : List Nat) (e : Nat) : Option Nat := if e ∈ found then (C e).map (flp a b) else C e
theorem XI.last (S : Snd L R C) (hab : a ≠ b) (na : ∀ e, L e = here → C e ≠ some a) (nb : ∀ e, R e = start → C e ≠ some b) (X : XI L R C a b start here found side w c) (stop : ∀ e, vS L R side e = w → C e ≠ some c) :
    Snd L R (flipC C a b found) ∧ (∀ e, L e = here → flipC C a b found e ≠ some a) ∧ ∀ e, R e = start → flipC C a b found e ≠ some a := by
  have closed : ∀ e, e ∈ found → ∀ s, s < 2 → ∀ e', (C e' = some a ∨ C e' = some b) → vS L R s e' = vS L R s e → e' ∈ found := by
    intro e he s hs e' hab' hv
    by_cases k : s ≠ side ∨ vS L R s e ≠ w
    · exact X.i1 e he s hs k e' hab' hv
    · have k1 : s = side := Classical.byContradiction fun z => k (.inl z)
      have k2 : vS L R s e = w := Classical.byContradiction fun z => k (.inr z)
      subst k1
      have hw' : vS L R s e' = w := by rw [hv, k2]
      have cc : C e' = some c ∨ C e' = some (flp a b c) := by
        rcases X.ab with ⟨_, q⟩ | ⟨_, q, _⟩
        · rw [q, flp_a]; exact hab'
        · rw [q, flp_b hab]; exact hab'.symm
      rcases cc with q | q
      · exact absurd q (stop e' hw')
      · exact X.i3 e' hw' q
  have fin : ∀ e, e ∈ found → (C e = some a ∧ flipC C a b found e = some b) ∨ (C e = some b ∧ flipC C a b found e = some a) := by
    intro e he
    unfold flipC
    rw [if_pos he]
    rcases X.edges e he with h | h
    · rw [h]; exact .inl ⟨rfl, by rw [Option.map_some, flp_a]⟩
    · rw [h]; exact .inr ⟨rfl, by rw [Option.map_some, flp_b hab]⟩
  have fout : ∀ e, e ∉ found → flipC C a b found e = C e := fun e he => by unfold flipC; rw [if_neg he]
  refine ⟨fun i j d hi hj ne => ?_, fun e he z => ?_, fun e he z => ?_⟩
  · by_cases mi : i ∈ found
    · by_cases mj : j ∈ found
      · rcases fin i mi with ⟨p, q⟩ | ⟨p, q⟩ <;> rcases fin j mj with ⟨p2, q2⟩ | ⟨p2, q2⟩
        · exact S i j a p p2 ne
        · rw [q] at hi; rw [q2] at hj
          exact absurd (Option.some.inj (hi.trans hj.symm)).symm hab
        · rw [q] at hi; rw [q2] at hj
          exact absurd (Option.some.inj (hi.trans hj.symm)) hab
        · exact S i j b p p2 ne
      · rw [fout j mj] at hj
        have cj : C j = some a ∨ C j = some b := by
          rcases fin i mi with ⟨p, q⟩ | ⟨p, q⟩
          · rw [q] at hi; exact .inr (hj.trans hi.symm)
          · rw [q] at hi; exact .inl (hj.trans hi.symm)
        exact ⟨fun z => mj (closed i mi 0 (by decide) j cj z.symm), fun z => mj (closed i mi 1 (by decide) j cj z.symm)⟩
    · rw [fout i mi] at hi
      by_cases mj : j ∈ found
      · have ci : C i = some a ∨ C i = some b := by
          rcases fin j mj with ⟨p, q⟩ | ⟨p, q⟩
          · rw [q] at hj; exact .inr (hi.trans hj.symm)
          · rw [q] at hj; exact .inl (hi.trans hj.symm)
        exact ⟨fun z => mi (closed j mj 0 (by decide) i ci z), fun z => mi (closed j mj 1 (by decide) i ci z)⟩
      · rw [fout j mj] at hj
        exact S i j d hi hj ne
  · by_cases m : e ∈ found
    · exact X.i5 e m he
    · rw [fout e m] at z
      exact na e he z
  · by_cases m : e ∈ found
    · rcases fin e m with ⟨p, q⟩ | ⟨p, q⟩
      · rw [q] at z; exact hab (Option.some.inj z).symm
      · exact nb e he p
    · rw [fout e m] at z
      rcases X.i4 with ⟨h3, h4, h5, h6⟩ | h
      · rw [h4, h5, h6] at stop
        exact stop e he z
      · exact m (h e he z)
theorem flipC_none {e : Nat} : flipC C a b found e = none ↔ C e = none := by
  unfold flipC
  split
  · rw [Option.map_eq_none_iff]
  · exact Iff.rfl
theorem flipC_lt {m e d : Nat} (ha : a < m) (hb : b < m) (hC : ∀ e d, C e = some d → d < m) (h : flipC C a b found e = some d) : d < m := by
  unfold flipC at h
  split at h
  · obtain ⟨x, _, hx⟩ := Option.map_eq_some_iff.mp h
    rw [← hx]
    unfold flp
    split
    · exact hb
    · exact ha
  · exact hC e d h
/-- a new edge with a colour that is free at both ends -/
theorem Snd.put {k : Nat} (S : Snd L R C) (h0 : ∀ e, L e = L k → C e ≠ some a) (h1 : ∀ e, R e = R k → C e ≠ some a) : Snd L R (fun e => if e = k then some a else C e) := by
  intro i j d hi0 hj0 ne
  have hi : (if i = k then some a else C i) = some d := hi0
  have hj : (if j = k then some a else C j) = some d := hj0
  clear hi0 hj0
  by_cases ci : i = k
  · have cj : j ≠ k := fun z => ne (by rw [ci, z])
    rw [if_pos ci] at hi
    rw [if_neg cj] at hj
    obtain rfl := Option.some.inj hi
    subst ci
    exact ⟨fun z => h0 j z.symm hj, fun z => h1 j z.symm hj⟩
  · rw [if_neg ci] at hi
    by_cases cj : j = k
    · rw [if_pos cj] at hj
      obtain rfl := Option.some.inj hj
      subst cj
      exact ⟨fun z => h0 i z hi, fun z => h1 i z hi⟩
    · rw [if_neg cj] at hj
      exact S i j d hi hj ne
end Ck
/-! ## text L61A -/
set_option Elab.async false
set_option linter.all false
set_option maxRecDepth 100000
set_option maxHeartbeats 4000000
namespace Ck
/-! ### the calls of a pairing -/
def pairsUp (ps : List (Option Nat)) (i : Nat) : List (Nat × Nat) := (List.range i).filterMap fun j => (hA ps j).map fun p => (j, p)
theorem pairsUp_succ (ps : List (Option Nat)) (i : Nat) : pairsUp ps (i + 1) = pairsUp ps i ++ (match hA ps i with | some p => [(i, p)] | none => []) := by
  unfold pairsUp
  rw [List.range_succ, List.filterMap_append]
  congr 1
  cases h : hA ps i <;> simp [h]
theorem pairsUp_pre (ps : List (Option Nat)) {i : Nat} : ∀ {n : Nat}, i ≤ n → ∃ t, pairsUp ps n = pairsUp ps i ++ t
  | 0, h => ⟨[], by rw [show i = 0 by omega, List.append_nil]⟩
  | n + 1, h => by
    by_cases c : i = n + 1
    · exact ⟨[], by rw [c, List.append_nil]⟩
    · obtain ⟨t, e⟩ := pairsUp_pre ps (i := i) (n := n) (by omega)
      exact ⟨t ++ _, by rw [pairsUp_succ, e, List.append_assoc]⟩
theorem pairsUp_at {ps : List (Option Nat)} {i n p : Nat} (h : hA ps i = some p) (hi : i < n) : (pairsUp ps n)[(pairsUp ps i).length]? = some (i, p) := by
  obtain ⟨t, e⟩ := pairsUp_pre ps (i := i + 1) (n := n) hi
  rw [e, pairsUp_succ, h, List.append_assoc, List.getElem?_append_right (Nat.le_refl _), Nat.sub_self]
  rfl
theorem pairsUp_mono {ps : List (Option Nat)} {i j p : Nat} (h : hA ps i = some p) (hij : i < j) : (pairsUp ps i).length < (pairsUp ps j).length := by
  obtain ⟨t, e⟩ := pairsUp_pre ps (i := i + 1) (n := j) hij
  rw [e, pairsUp_succ, h, List.length_append, List.length_append]
  show _ < _ + 1 + _
  omega
theorem pairsUp_mem {ps : List (Option Nat)} {n i p : Nat} (h : (i, p) ∈ pairsUp ps n) : i < n ∧ hA ps i = some p := by
  unfold pairsUp at h
  obtain ⟨j, hj, e⟩ := List.mem_filterMap.mp h
  obtain ⟨q, hq, e2⟩ := Option.map_eq_some_iff.mp e
  have e3 : j = i := congrArg Prod.fst e2
  have e4 : q = p := congrArg Prod.snd e2
  exact ⟨e3 ▸ List.mem_range.mp hj, by rw [← e3, hq, e4]⟩
theorem pairsUp_len (ps : List (Option Nat)) (n : Nat) : (pairsUp ps n).length ≤ n := by
  unfold pairsUp
  have := List.length_filterMap_le (fun j => (hA ps j).map fun p => (j, p)) (List.range n)
  rw [List.length_range] at this
  exact this
/-- the place tells the number -/
theorem pairsUp_ix {ps : List (Option Nat)} {n k i p : Nat} (h : (pairsUp ps n)[k]? = some (i, p)) : k = (pairsUp ps i).length := by
  induction n with
  | zero => simp [pairsUp] at h
  | succ n ih =>
    rw [pairsUp_succ] at h
    by_cases c : k < (pairsUp ps n).length
    · rw [List.getElem?_append_left c] at h
      exact ih h
    · rw [List.getElem?_append_right (by omega)] at h
      cases e : hA ps n with
      | none => rw [e] at h; simp at h
      | some q =>
        rw [e] at h
        have hk := (List.getElem?_eq_some_iff.mp h).1
        have hk : k - (pairsUp ps n).length < 1 := hk
        rw [show k - (pairsUp ps n).length = 0 by omega] at h
        have e2 : (n, q) = (i, p) := Option.some.inj h
        have e3 : n = i := congrArg Prod.fst e2
        rw [← e3]
        omega
/-- two inputs with one output are one -/
theorem valid_inj {ps : List (Option Nat)} {n i j p : Nat} (V : Valid ps n) (hi : hA ps i = some p) (hj : hA ps j = some p) : i = j := by
  have F := full_of V
  have li : i < ps.length := Classical.byContradiction fun z => by
    have : hA ps i = none := by
      unfold hA
      rw [List.getD_eq_getElem?_getD, List.getElem?_eq_none (by omega)]
      rfl
    rw [this] at hi; cases hi
  have lj : j < ps.length := Classical.byContradiction fun z => by
    have : hA ps j = none := by
      unfold hA
      rw [List.getD_eq_getElem?_getD, List.getElem?_eq_none (by omega)]
      rfl
    rw [this] at hj; cases hj
  have e1 := fullOf_at (ps := ps) (i := i) (g := p) (by rw [hA_get li, hi])
  have e2 := fullOf_at (ps := ps) (i := j) (g := p) (by rw [hA_get lj, hj])
  rw [V.len] at li lj
  exact F.inj li lj (e1.trans e2.symm)
/-- a colour is left -/
theorem free_col {g N k : Nat} (hg : g = 1 ∨ g = 2) {f : Nat → Nat} {C : Nat → Option Nat} (inj : ∀ i j, i < N → j < N → f i = f j → i = j) (hk : k < N) (ck : C k = none) : ∃ c, c < g ∧ ∀ i, i < N → ¬ (f i / g = f k / g ∧ C i = some c) := by
  rcases hg with rfl | rfl
  · refine ⟨0, by decide, fun i hi h => ?_⟩
    have : i = k := inj i k hi hk (by have := h.1; omega)
    rw [this, ck] at h
    cases h.2
  · refine Classical.byContradiction fun no => ?_
    have u : ∀ c, c < 2 → ∃ i, i < N ∧ f i / 2 = f k / 2 ∧ C i = some c := by
      intro c hc
      refine Classical.byContradiction fun z => no ⟨c, hc, fun i hi h => z ⟨i, hi, h.1, h.2⟩⟩
    obtain ⟨i, hi, a1, b1⟩ := u 0 (by decide)
    obtain ⟨j, hj, a2, b2⟩ := u 1 (by decide)
    have n1 : f i ≠ f j := fun z => by
      rw [inj i j hi hj z, b2] at b1; cases b1
    have n2 : f i ≠ f k := fun z => by
      rw [inj i k hi hk z, ck] at b1; cases b1
    have n3 : f j ≠ f k := fun z => by
      rw [inj j k hj hk z, ck] at b2; cases b2
    omega
structure AsgOk (ps : List (Option Nat)) (n g : Nat) (res : List (Option Nat)) : Prop where
  len : res.length = n
  non : ∀ i, i < n → (hA res i = none ↔ hA ps i = none)
  lt : ∀ i d, hA res i = some d → d < g
  ap : ∀ i j p q d, i < n → j < n → i ≠ j → hA ps i = some p → hA ps j = some q → hA res i = some d → hA res j = some d → i / g ≠ j / g ∧ p / g ≠ q / g
def csOf (ps : List (Option Nat)) (g i : Nat) : List (Nat × Nat) := (pairsUp ps i).map fun c => (c.1 / g, c.2 / g)
def asg (ps cols : List (Option Nat)) (j : Nat) : Option Nat := if (hA ps j).isSome then hA cols (pairsUp ps j).length else none
theorem asg_ok {ps cols : List (Option Nat)} {n g : Nat} (V : Valid ps n) (S : ∀ i j d, hA cols i = some d → hA cols j = some d → i ≠ j → ((csOf ps g n).getD i (0, 0)).1 ≠ ((csOf ps g n).getD j (0, 0)).1 ∧ ((csOf ps g n).getD i (0, 0)).2 ≠ ((csOf ps g n).getD j (0, 0)).2)
    (bd : ∀ i d, hA cols i = some d → d < g) (all : ∀ e, e < (pairsUp ps n).length → hA cols e ≠ none) : AsgOk ps n g ((List.range n).map (asg ps cols)) := by
  have at_ : ∀ i, i < n → hA ((List.range n).map (asg ps cols)) i = asg ps cols i := by
    intro i hi
    unfold hA
    rw [List.getD_eq_getElem?_getD, List.getElem?_map, List.getElem?_range hi]
    rfl
  have out : ∀ i d, hA ((List.range n).map (asg ps cols)) i = some d → i < n := by
    intro i d h
    refine Classical.byContradiction fun z => ?_
    unfold hA at h
    rw [List.getD_eq_getElem?_getD, List.getElem?_eq_none (by rw [List.length_map, List.length_range]; omega)] at h
    cases h
  refine ⟨by rw [List.length_map, List.length_range], fun i hi => ?_, fun i d h => ?_, fun i j p q d hi hj ne hp hq h1 h2 => ?_⟩
  · rw [at_ i hi]
    unfold asg
    cases e : hA ps i with
    | none => simp
    | some p =>
      have lt := pairsUp_at e hi
      have := all _ (List.getElem?_eq_some_iff.mp lt).1
      simp [this]
  · rw [at_ i (out i d h)] at h
    unfold asg at h
    split at h
    · exact bd _ _ h
    · cases h
  · rw [at_ i hi] at h1
    rw [at_ j hj] at h2
    unfold asg at h1 h2
    rw [hp] at h1
    rw [hq] at h2
    have h1 : hA cols (pairsUp ps i).length = some d := h1
    have h2 : hA cols (pairsUp ps j).length = some d := h2
    have ne2 : (pairsUp ps i).length ≠ (pairsUp ps j).length := by
      rcases Nat.lt_or_gt_of_ne ne with c | c
      · have := pairsUp_mono hp c; omega
      · have := pairsUp_mono hq c; omega
    have := S _ _ d h1 h2 ne2
    have ei : (csOf ps g n)[(pairsUp ps i).length]? = some (i / g, p / g) := by unfold csOf; rw [List.getElem?_map, pairsUp_at hp hi]; rfl
    have ej : (csOf ps g n)[(pairsUp ps j).length]? = some (j / g, q / g) := by unfold csOf; rw [List.getElem?_map, pairsUp_at hq hj]; rfl
    rw [List.getD_eq_getElem?_getD, List.getD_eq_getElem?_getD, ei, ej] at this
    exact this
end Ck
/-! ## text K61W -/
set_option Elab.async false
set_option linter.all false
set_option maxRecDepth 100000
set_option maxHeartbeats 4000000
namespace Ck
open PySem PySem.Spec PyProof.Rows L2
/-! ### comparing lists of numbers and of tuples of numbers -/
def iD (x : Nat) : PyData := .int (x : Int)
def nD (xs : List Nat) : List PyData := xs.map iD
theorem canAll (f : α → PyData) : ∀ (l : List α), (∀ x ∈ l, PyData.canLay0 (f x) = true) → PyData.canLayAll0 (l.map f) = true
  | [], _ => rfl
  | x :: r, h => by
    show (PyData.canLay0 (f x) && PyData.canLayAll0 (r.map f)) = true
    rw [h x List.mem_cons_self, canAll f r fun y hy => h y (List.mem_cons_of_mem _ hy)]
    rfl
theorem depAll (f : α → PyData) (n : Nat) : ∀ (l : List α), (∀ x ∈ l, PyData.depth (f x) ≤ n) → PyData.depthAll (l.map f) ≤ n
  | [], _ => Nat.zero_le _
  | x :: r, h => by
    show max (PyData.depth (f x)) (PyData.depthAll (r.map f)) ≤ n
    exact Nat.max_le.mpr ⟨h x List.mem_cons_self, depAll f n r fun y hy => h y (List.mem_cons_of_mem _ hy)⟩
theorem shaped_nums (xs : List Nat) : SeqAt.shaped (.list (nD xs)) = true := by
  unfold SeqAt.shaped
  refine Bool.and_eq_true_iff.mpr ⟨canAll _ xs fun _ _ => rfl, decide_eq_true ?_⟩
  show PyData.depthAll (nD xs) + 1 ≤ 64
  have := depAll iD 0 xs fun _ _ => Nat.le_refl 0
  unfold nD
  omega
theorem shaped_rows (rows : List (List Nat)) : SeqAt.shaped (.list (rows.map fun r => .tuple (nD r))) = true := by
  unfold SeqAt.shaped
  refine Bool.and_eq_true_iff.mpr ⟨canAll _ rows fun r _ => canAll _ r fun _ _ => rfl, decide_eq_true ?_⟩
  show PyData.depthAll (rows.map fun r => .tuple (nD r)) + 1 ≤ 64
  have := depAll (fun r : List Nat => PyData.tuple (nD r)) 1 rows fun r _ => by
    show PyData.depthAll (nD r) + 1 ≤ 1
    have := depAll iD 0 r fun _ _ => Nat.le_refl 0
    unfold nD
    omega
  omega
theorem eqvAll_map {f : α → PyData} : ∀ (l : List α), (∀ x ∈ l, PyData.eqv (f x) (f x) = true) → PyData.eqvAll (l.map f) (l.map f) = true
  | [], _ => rfl
  | x :: r, h => by
    show (PyData.eqv (f x) (f x) && PyData.eqvAll (r.map f) (r.map f)) = true
    rw [h x List.mem_cons_self, eqvAll_map r fun y hy => h y (List.mem_cons_of_mem _ hy)]
    rfl
theorem eqv_int (x : Nat) : PyData.eqv (iD x) (iD x) = true := by
  show ((x : Int) == (x : Int)) = true
  exact beq_self_eq_true _
theorem eqv_nums (xs : List Nat) : PyData.eqv (.list (nD xs)) (.list (nD xs)) = true := eqvAll_map xs fun x _ => eqv_int x
theorem eqv_rows (rows : List (List Nat)) : PyData.eqv (.list (rows.map fun r => .tuple (nD r))) (.list (rows.map fun r => .tuple (nD r))) = true :=
  eqvAll_map rows fun r _ => eqvAll_map r fun x _ => eqv_int x
theorem dp_all {K : PySem.W.Frag} {H : Hp} : ∀ xs : List Nat, DpAll K H (xs.map nv) (nD xs)
  | [] => .nil
  | x :: r => .cons (.int _) (dp_all r)
theorem dp_nums {K : PySem.W.Frag} {H : Hp} {a : Addr} {xs : List Nat} (h : H a = some (.lst (xs.map nv))) : Dp K H (.ref a) (.list (nD xs)) := .lst (SqL.of h) (dp_all xs)
theorem dp_tup {K : PySem.W.Frag} {H : Hp} {a : Addr} {xs : List Nat} (h : H a = some (.tup (xs.map nv))) : Dp K H (.ref a) (.tuple (nD xs)) := .tup (SqT.of h) (dp_all xs)
theorem dp_rowsAll {K : PySem.W.Frag} {H : Hp} : ∀ {ts : List Addr} {rows : List (List Nat)}, TupsAt H ts (rows.map fun r => r.map nv) → DpAll K H (ts.map V.ref) (rows.map fun r => .tuple (nD r))
  | [], [], _ => .nil
  | t :: ts, r :: rows, .cons h q => .cons (dp_tup h) (dp_rowsAll q)
theorem dp_rows {K : PySem.W.Frag} {H : Hp} {a : Addr} {ts : List Addr} {rows : List (List Nat)} (h : H a = some (.lst (ts.map V.ref))) (q : TupsAt H ts (rows.map fun r => r.map nv)) : Dp K H (.ref a) (.list (rows.map fun r => .tuple (nD r))) :=
  .lst (SqL.of h) (dp_rowsAll q)
/-- xs != [], numbers -/
def rNil (K : PySem.W.Frag) : R2 := fun x y H Q => ∃ a b xs, x = .ref a ∧ y = .ref b ∧ H a = some (.lst (xs.map nv)) ∧ H b = some (.lst []) ∧ Q (.bl (!decide (xs = []))) H
theorem op_neNil {X : Cx} (hu : X.A.units + 64 < cLine) : OpR X (compareOp .NotEq) (rNil X.K) := by
  intro pins s σ H x y v u Q I rx ry h
  obtain ⟨a, b, xs, e1, e2, ha, hb, q⟩ := h
  subst e1
  subst e2
  refine op_neD hu pins s σ H _ _ v u Q I rx ry ⟨_, _, dp_nums ha, .lst (SqL.of hb) .nil, shaped_nums xs, rfl, ?_⟩
  cases xs with
  | nil => exact q
  | cons z r => exact q
def rEqNil (K : PySem.W.Frag) : R2 := fun x y H Q => ∃ a b xs, x = .ref a ∧ y = .ref b ∧ H a = some (.lst (xs.map nv)) ∧ H b = some (.lst []) ∧ Q (.bl (decide (xs = []))) H
theorem op_eqNil {X : Cx} (hu : X.A.units + 64 < cLine) : OpR X (compareOp .Eq) (rEqNil X.K) := by
  intro pins s σ H x y v u Q I rx ry h
  obtain ⟨a, b, xs, e1, e2, ha, hb, q⟩ := h
  subst e1
  subst e2
  refine op_eqD hu pins s σ H _ _ v u Q I rx ry ⟨_, _, dp_nums ha, .lst (SqL.of hb) .nil, shaped_nums xs, rfl, ?_⟩
  cases xs with
  | nil => exact q
  | cons z r => exact q
/-! ### a Calls -/
def callsF (A : Addr) (l r : Nat) (B : Addr) : List (Str × V) := [("calls", .ref A), ("left", nv l), ("right", nv r), ("colours", .ref B)]
def CallsS (K : PySem.W.Frag) (G : Hp) (o B : Addr) (cs : List (Nat × Nat)) : Prop :=
  ∃ (dx A : Addr) (l r : Nat) (ts : List Addr), G o = some (.ins (He.ga K "Calls") dx (callsF A l r B)) ∧ G A = some (.lst (ts.map V.ref)) ∧ TupsAt G ts (cs.map fun c => [nv c.1, nv c.2])
structure CallSt (K : PySem.W.Frag) (G H : Hp) (o B : Addr) (cs : List (Nat × Nat)) (cols : List (Option Nat)) : Prop where
  same : Same G H
  fresh : G B = none
  st : CallsS K G o B cs
  col : H B = some (.lst (cols.map ov))
  len : cols.length = cs.length
theorem CallSt.keep {K : PySem.W.Frag} {G H H' : Hp} {o B : Addr} {cs : List (Nat × Nat)} {cols : List (Option Nat)} (c : CallSt K G H o B cs cols) (s : Same H H') : CallSt K G H' o B cs cols :=
  ⟨c.same.trans s, c.fresh, c.st, s _ _ c.col, c.len⟩
theorem cF_calls {A B : Addr} {l r : Nat} : (callsF A l r B).lookup ("calls" : Str) = some (V.ref A) := rfl
theorem cF_colours {A B : Addr} {l r : Nat} : (callsF A l r B).lookup ("colours" : Str) = some (V.ref B) := rfl
theorem cF_at {A B : Addr} {l r : Nat} : (callsF A l r B).lookup ("at" : Str) = none := rfl
theorem cF_ff {A B : Addr} {l r : Nat} : (callsF A l r B).lookup ("first_free" : Str) = none := rfl
theorem cF_ex {A B : Addr} {l r : Nat} : (callsF A l r B).lookup ("exchange" : Str) = none := rfl
theorem cF_col {A B : Addr} {l r : Nat} : (callsF A l r B).lookup ("colour" : Str) = none := rfl
def wo (H : Hp) (B : Addr) : Hp := fun a => if a = B then none else H a
theorem wo_self (H : Hp) (B : Addr) : wo H B B = none := by unfold wo; rw [if_pos rfl]
theorem wo_ne {H : Hp} {a B : Addr} (h : a ≠ B) : wo H B a = H a := by unfold wo; rw [if_neg h]
theorem wo_same (H : Hp) (B : Addr) : Same (wo H B) H := fun b o e => by
  unfold wo at e
  split at e
  · cases e
  · exact e
theorem same_wo {H0 H : Hp} {B : Addr} (s : Same H0 H) (h : H0 B = none) : Same H0 (wo H B) := fun b o e => by
  rw [wo_ne (ne_of_none e h)]
  exact s _ _ e
theorem TupsAt.wo {H : Hp} {ts : List Addr} {rows : List (List V)} {B : Addr} {xs : List V} (t : TupsAt H ts rows) (h : H B = some (.lst xs)) : TupsAt (wo H B) ts rows :=
  Paired.mapP t fun a r e => by rw [wo_ne (ne_of e h (by intro z; cases z))]; exact e
def cL (cs : List (Nat × Nat)) (i : Nat) : Nat := (cs.getD i (0, 0)).1
def cR (cs : List (Nat × Nat)) (i : Nat) : Nat := (cs.getD i (0, 0)).2
section
variable {P : Program} {w : World} {K : PySem.W.Frag} {mg : Str → Option Value} {base : Heap}
theorem Tx.calls (T : Tx K mg) : Cls K (He.ga K "Calls") := T.cl _ (by unfold faC; simp)
theorem Tx.cCalls (T : Tx K mg) : NoAttr K (He.ga K "Calls") "calls" := T.na _ _ (by unfold faC; simp)
theorem Tx.cLeft (T : Tx K mg) : NoAttr K (He.ga K "Calls") "left" := T.na _ _ (by unfold faC; simp)
theorem Tx.cRight (T : Tx K mg) : NoAttr K (He.ga K "Calls") "right" := T.na _ _ (by unfold faC; simp)
theorem Tx.cColours (T : Tx K mg) : NoAttr K (He.ga K "Calls") "colours" := T.na _ _ (by unfold faC; simp)
def spCallsInit (K : PySem.W.Frag) : Sp := fun vs H Q _ => ∃ (H0 : Hp) (o dx A0 : Addr) (l r : Nat) (ts : List Addr) (cs : List (Nat × Nat)), vs = [.ref o, .ref A0, nv l, nv r] ∧ Same H0 H ∧ H0 o = none ∧ H o = some (.ins (He.ga K "Calls") dx []) ∧
  H0 A0 = some (.lst (ts.map V.ref)) ∧ TupsAt H0 ts (cs.map fun c => [nv c.1, nv c.2]) ∧ (∀ c ∈ cs, c.1 < l ∧ c.2 < r) ∧ cs.length ≤ 100 ∧ TT K H0 ∧
  ∀ G B H', Same H0 G → H0 B = none → CallSt K G H' o B cs (List.replicate cs.length none) → Q .non H'
abbrev nCI : List Str := ["self", "calls", "left", "right", "call", "one", "other"]
theorem sc_callsInit : FnScope nCI ["self", "calls", "left", "right"] (defScope dCallsInit) := ⟨rfl, rfl, rfl, by decide +kernel, rfl, by decide +kernel, by decide +kernel⟩
theorem k_calls (T : Tx K mg) (TB : TBs K mg base) : KDef P w K mg base "Calls" (He.ga K "Calls") 2 ["self", "calls", "left", "right"] (spCallsInit K) := by
  refine kdef (st := dCallsInit) (q := "Calls.__init__") T (by unfold fn defs1 defs2; simp) (by unfold faC; simp) (by unfold faG; simp) sc_callsInit (fun vs H Q E h => ?_) (fun _ _ _ _ _ _ us hl => match us, hl with | [_, _, _, _], _ => rfl) (fun f cdv A outer s H vs Q E ec hr h => ?_)
  · obtain ⟨H0, o, dx, A0, l, r, ts, cs, rfl, _⟩ := h
    rfl
  · obtain ⟨H0, o, dx, A0, l, r, ts, cs, rfl, s0, o0, ho, hA, hT, bd, lc, tt, k⟩ := h
    have nd := sc_callsInit.nd
    have htf : (("Calls", some "__init__") : He.Defn) ∈ tf := by unfold tf; simp
    have hTB := TB _ htf
    refine ⟨_, pss_cons (ps_fld (pv 0) (pe_lc (own := [("call", 4)]) (g := gName 4) (tt := tYes) (te := tThen (tVar 4) (kTup K)) rfl nd (pi_list (pv 1)) (blkOk_by (N := nCI) (sc := defScope dCallsInit) (own := [("call", 4)]) (by decide +kernel))
          (fun _ _ _ _ _ => pg_name (i := 4) nd rfl (Or.inl rfl)) (fun _ _ _ _ _ => pts_nil) (fun _ _ _ _ _ => pe_tupleOf (by rfl) T.tuple (pv 4))) rfl)
      (pss_cons (ps_if (pt_val (pe_any (own := [("one", 5), ("other", 6)]) (k := 0) (hr.mono (by decide)) (by rfl) T.any hTB ec rfl nd (blkOk_by (N := nCI) (sc := defScope dCallsInit) (own := [("one", 5), ("other", 6)]) (by decide +kernel)) (by decide +kernel) rfl rfl (pi_list (pe_fld (pv 0) rfl)) (by intro _; rfl)
          (segL1 (vs := [5, 6]) (k := 0) (g := gTup K 2 (gCons (gName 5) (gCons (gName 6) gNil))) rfl (fun _ _ _ _ _ _ => pg_tup rfl (pgs_cons (pg_name (i := 5) nd rfl (Or.inl rfl)) (pgs_cons (pg_name (i := 6) nd rfl (Or.inl rfl)) pgs_nil)))
            (fun _ _ _ _ _ _ hr2 => pe_or (pe_not (pe_chain op_le op_lt pe_int (pv 5) (pv 2))) (pe_one (pe_not (pe_chain op_le op_lt pe_int (pv 6) (pv 3))))))))
        (pss_one ps_never) pss_nil)
      (pss_cons (ps_fld (pv 0) (pv 2) rfl)
      (pss_cons (ps_fld (pv 0) (pv 3) rfl)
      (pss_one (ps_fld (pv 0) (pe_op op_rep (pe_lst (pa_cons pe_non pa_nil)) (pe_callB call_len_seq (by rfl) T.len PySem.boot_len (pa_cons (pe_fld (pv 0) rfl) pa_nil))) rfl))))), ?_⟩
    have lts : ts.length = cs.length := by rw [hT.length, List.length_map]
    refine ⟨_, rfl, A0, rfl, ⟨_, SqL.of (s0 _ _ hA)⟩, fun D nD => ?_⟩
    have nDo : o ≠ D := ne_of_none ho nD
    refine lc_it walk_list (LcP H D fun i => (ts.take i).map V.ref) (lc_start nD rfl) (fun i H2 _ p => SqL.of (p.1 _ _ (s0 _ _ hA))) (fun i x H2 H3 hi p y => ?_) (fun H2 p => ?_)
    · obtain ⟨rfl, hx⟩ := y
      obtain ⟨t, ht, rfl⟩ := ref_get hx
      obtain ⟨r, hr1, hr2⟩ := hT.row ht
      refine ⟨rfl, tyes ?_⟩
      refine ⟨_, rfl, .inr ⟨t, _, rfl, SqT.of (p.1 _ _ (s0 _ _ hr2)), ?_⟩⟩
      refine lc_put nD p (Same.refl _) ?_ ?_
      · rw [List.take_add_one, ht, List.map_append]; rfl
      · rw [List.length_map, List.length_take]
        omega
    have hD : H2 D = some (.lst (ts.map V.ref)) := by
      refine p.2.trans ?_
      show some (HO.lst ((ts.take (ts.map V.ref).length).map V.ref)) = _
      rw [List.length_map, List.take_length]
    have s2 := p.1
    have nD0 : H0 D = none := s0.free nD
    have ho2 := s2 _ _ ho
    have s02 := s0.trans s2
    refine ⟨_, rfl, o, _, dx, _, rfl, ho2, T.calls, T.cCalls, (by show 0 < 1000; decide), ?_⟩
    have s3 : Same H0 (upd H2 o (.ins (He.ga K "Calls") dx (putF "calls" (.ref D) []))) := Same.up s02 o0
    have ho3 : upd H2 o (.ins (He.ga K "Calls") dx (putF "calls" (.ref D) [])) o = some (.ins (He.ga K "Calls") dx (putF "calls" (.ref D) [])) := upd_same
    have hD3 : upd H2 o (.ins (He.ga K "Calls") dx (putF "calls" (.ref D) [])) D = some (.lst (ts.map V.ref)) := by rw [upd_ne (Ne.symm nDo)]; exact hD
    generalize upd H2 o (.ins (He.ga K "Calls") dx (putF "calls" (.ref D) [])) = H3 at *
    refine ⟨_, rfl, o, _, dx, _, _, rfl, ho3, T.calls, T.cCalls, rfl, D, rfl, ⟨_, SqL.of hD3⟩, tt.same s3 _ htf, anyF_list (SqL.of hD3) (fun i x hx => ?_) ?_⟩
    · obtain ⟨t, ht, rfl⟩ := ref_get hx
      obtain ⟨r0, hr1, hr2⟩ := hT.row ht
      rw [List.getElem?_map] at hr1
      obtain ⟨c, hc, rfl⟩ := Option.map_eq_some_iff.mp hr1
      have b := bd c (List.mem_of_getElem? hc)
      refine ⟨t, _, rfl, SqT.of (s3 _ _ hr2), rfl, _, _, rfl, _, _, rfl, rfl, rfl, ?_⟩
      refine ⟨_, rfl, _, _, rfl, rfl, _, rfl, ?_⟩
      rw [if_pos (decide_eq_true (by omega))]
      refine ⟨_, rfl, _, _, rfl, rfl, _, rfl, _, rfl, ?_⟩
      rw [decide_eq_true (by omega)]
      refine iteF ?_
      refine ⟨_, rfl, _, _, rfl, rfl, _, rfl, ?_⟩
      rw [if_pos (decide_eq_true (by omega))]
      refine ⟨_, rfl, _, _, rfl, rfl, _, rfl, ?_⟩
      rw [decide_eq_true (by omega)]
      exact ⟨rfl, rfl⟩
    · refine ⟨_, rfl, iteF ?_⟩
      refine ⟨_, rfl, _, rfl, o, _, dx, _, rfl, ho3, T.calls, T.cLeft, (by show 1 < 1000; decide), ?_⟩
      refine ⟨_, rfl, _, rfl, o, _, dx, _, rfl, upd_same, T.calls, T.cRight, (by show 2 < 1000; decide), ?_⟩
      have s4 : Same H0 (upd (upd H3 o (.ins (He.ga K "Calls") dx (putF "left" (nv l) (putF "calls" (.ref D) [])))) o (.ins (He.ga K "Calls") dx (putF "right" (nv r) (putF "left" (nv l) (putF "calls" (.ref D) []))))) := Same.up (Same.up s3 o0) o0
      have ho4 : upd (upd H3 o (.ins (He.ga K "Calls") dx (putF "left" (nv l) (putF "calls" (.ref D) [])))) o (.ins (He.ga K "Calls") dx (putF "right" (nv r) (putF "left" (nv l) (putF "calls" (.ref D) [])))) o = some (.ins (He.ga K "Calls") dx (putF "right" (nv r) (putF "left" (nv l) (putF "calls" (.ref D) [])))) := upd_same
      have hD4 : upd (upd H3 o (.ins (He.ga K "Calls") dx (putF "left" (nv l) (putF "calls" (.ref D) [])))) o (.ins (He.ga K "Calls") dx (putF "right" (nv r) (putF "left" (nv l) (putF "calls" (.ref D) [])))) D = some (.lst (ts.map V.ref)) := by rw [upd_ne (Ne.symm nDo), upd_ne (Ne.symm nDo)]; exact hD3
      generalize upd (upd H3 o (.ins (He.ga K "Calls") dx (putF "left" (nv l) (putF "calls" (.ref D) [])))) o (.ins (He.ga K "Calls") dx (putF "right" (nv r) (putF "left" (nv l) (putF "calls" (.ref D) [])))) = H4 at *
      refine ⟨show 1 ≤ sizeLine by decide, fun L1 nL1 => ?_⟩
      have q1 := same_upd (o := .lst [V.non]) nL1
      have hL1 : upd H4 L1 (.lst [V.non]) L1 = some (.lst [V.non]) := upd_same
      generalize upd H4 L1 (.lst [V.non]) = H5 at *
      refine ⟨_, rfl, o, _, dx, _, _, rfl, q1 _ _ ho4, T.calls, T.cCalls, rfl, D, _, rfl, .inl (SqL.of (q1 _ _ hD4)), L1, _, _, rfl, rfl, hL1, by omega, by rw [List.length_map]; omega, ?_, fun B nB => ?_⟩
      · rw [List.length_map]
        show 1 * ((ts.length : Nat) : Int).toNat ≤ sizeLine
        have := small' lc
        omega
      have e0 : (List.replicate ((((ts.map V.ref).length : Nat) : Int)).toNat [V.non]).flatten = (List.replicate cs.length (none : Option Nat)).map ov := by
        rw [flat1, List.length_map, lts, List.map_replicate]
        rfl
      rw [e0]
      have q2 := same_upd (o := .lst ((List.replicate cs.length (none : Option Nat)).map ov)) nB
      have hB : upd H5 B (.lst ((List.replicate cs.length (none : Option Nat)).map ov)) B = some (.lst ((List.replicate cs.length (none : Option Nat)).map ov)) := upd_same
      generalize upd H5 B (.lst ((List.replicate cs.length (none : Option Nat)).map ov)) = H6 at *
      have s5 := s4.trans q1
      have nB0 : H0 B = none := s5.free nB
      have ho6 := q2 _ _ (q1 _ _ ho4)
      have hD6 := q2 _ _ (q1 _ _ hD4)
      have oB : o ≠ B := ne_of_none (q1 _ _ ho4) nB
      have DB : D ≠ B := ne_of_none (q1 _ _ hD4) nB
      refine ⟨_, rfl, o, _, dx, _, rfl, ho6, T.calls, T.cColours, (by show 3 < 1000; decide), ?_⟩
      have e1 : putF "colours" (.ref B) (putF "right" (nv r) (putF "left" (nv l) (putF "calls" (.ref D) []))) = callsF D l r B := rfl
      rw [e1]
      have s7 : Same H0 (upd H6 o (.ins (He.ga K "Calls") dx (callsF D l r B))) := Same.up (s5.trans q2) o0
      have hB7 : upd H6 o (.ins (He.ga K "Calls") dx (callsF D l r B)) B = some (.lst ((List.replicate cs.length (none : Option Nat)).map ov)) := by rw [upd_ne (Ne.symm oB)]; exact hB
      refine k (wo (upd H6 o (.ins (He.ga K "Calls") dx (callsF D l r B))) B) B _ (same_wo s7 nB0) nB0 ⟨wo_same _ _, wo_self _ _, ⟨dx, D, l, r, ts, by rw [wo_ne oB, upd_same], by rw [wo_ne DB, upd_ne (Ne.symm nDo)]; exact hD6, ?_⟩, hB7, List.length_replicate⟩
      exact TupsAt.wo (hT.same s7) hB7
end
end Ck
/-! ## text K61X -/
set_option Elab.async false
set_option linter.all false
set_option maxRecDepth 100000
set_option maxHeartbeats 4000000
namespace Ck
open PySem PySem.Spec PyProof.Rows L2
section
variable {P : Program} {w : World} {K : PySem.W.Frag} {mg : Str → Option Value} {base : Heap}
/-- an edge asked for -/
def cAsk (cs : List (Nat × Nat)) (cols : List (Option Nat)) (side w c i : Nat) : Prop := vS (cL cs) (cR cs) side i = w ∧ hA cols i = some c
def spCallsAt (K : PySem.W.Frag) : Sp := fun vs H Q _ => ∃ (G : Hp) (o B : Addr) (cs : List (Nat × Nat)) (cols : List (Option Nat)) (side gate colour : Nat), vs = [.ref o, nv side, nv gate, nv colour] ∧ side < 2 ∧ CallSt K G H o B cs cols ∧
  ∀ (r : Option Nat) H', Same H H' → (∀ i, r = some i → i < cs.length ∧ cAsk cs cols side gate colour i) → (r = none → ∀ i, i < cs.length → ¬ cAsk cs cols side gate colour i) → Q (ov r) H'
theorem sc_callsAt : FnScope ["self", "side", "gate", "colour", "number", "call"] ["self", "side", "gate", "colour"] (defScope dCallsAt) := ⟨rfl, rfl, rfl, by decide +kernel, rfl, by decide +kernel, by decide +kernel⟩
theorem getD_pair {cs : List (Nat × Nat)} {i : Nat} {c : Nat × Nat} (h : cs[i]? = some c) : cL cs i = c.1 ∧ cR cs i = c.2 := by
  unfold cL cR
  rw [List.getD_eq_getElem?_getD, h]
  exact ⟨rfl, rfl⟩
theorem m_callsAt (T : Tx K mg) : MDef P w K mg base (He.ga K "Calls") "at" 1 ["self", "side", "gate", "colour"] (spCallsAt K) := by
  refine mdef (st := dCallsAt) (q := "Calls.at") T (by unfold fn defs1 defs2; simp) (by unfold faC; simp) sc_callsAt (fun vs H Q E h => ?_) (fun _ _ _ _ _ _ us hl => match us, hl with | [_, _, _, _], _ => rfl) (fun f cdv A outer s H vs Q E ec hr h => ?_)
  · obtain ⟨G, o, B, cs, cols, side, gate, colour, rfl, _⟩ := h
    rfl
  · obtain ⟨G, o, B, cs, cols, side, gate, colour, rfl, hs, st, k⟩ := h
    have nd := sc_callsAt.nd
    refine ⟨_, pss_cons (ps_for PassesOwn.never rfl (pi_enum (by rfl) T.enumerate (pa_cons (pe_fld (pv 0) rfl) pa_nil)) (pg_tup rfl (pgs_cons (pg_name (i := 4) nd rfl (Or.inl rfl)) (pgs_cons (pg_name (i := 5) nd rfl (Or.inl rfl)) pgs_nil)))
        (pss_one (ps_if (PW.pt (pw_and (pt_cmpR op_eq (pe_ix ix_seq (pv 5) (pv 1) (fun _ _ => rfl)) (pv 2) (nomark _)) (pw_and1 (pt_cmpR op_eq (pe_ix ix_seq (pe_fld (pv 0) rfl) (pv 4) (fun _ _ => rfl)) (pv 3) (nomark _))))) (pss_one (ps_ret (pv 4))) pss_nil)))
      (pss_one (ps_ret pe_non)), ?_⟩
    obtain ⟨dx, A1, l, r, ts, ho, hA1, hT⟩ := st.st
    have lts : (ts.map V.ref).length = cs.length := by rw [List.length_map, hT.length, List.length_map]
    have s0 := st.same
    refine ⟨_, rfl, o, _, dx, _, _, rfl, s0 _ _ ho, T.calls, T.cCalls, cF_calls, A1, _, rfl, SqL.of (s0 _ _ hA1), ?_⟩
    refine for_it walk_enum (fun i σ H1 => (∃ x y, σ = [some (.ref o), some (nv side), some (nv gate), some (nv colour), x, y]) ∧ Same H H1 ∧ ∀ j, j < i → ¬ cAsk cs cols side gate colour j)
      ⟨⟨_, _, rfl⟩, Same.refl _, fun j hj => by omega⟩ (fun i σ H1 _ p => SqL.of (p.2.1 _ _ (s0 _ _ hA1))) (fun i x σ H1 H2 hi p y => ?_) (fun σ H1 p => ?_)
    · obtain ⟨⟨x0, y0, rfl⟩, s1, hno⟩ := p
      obtain ⟨t, u, v, rfl, nt, rfl, e1, e2⟩ := y
      obtain rfl : V.int (i : Nat) = u := Option.some.inj e1
      obtain ⟨q, hq, rfl⟩ := ref_get e2
      rw [lts] at hi
      obtain ⟨r0, hr1, hr2⟩ := hT.row hq
      rw [List.getElem?_map] at hr1
      obtain ⟨c, hc, rfl⟩ := Option.map_eq_some_iff.mp hr1
      have gp := getD_pair hc
      have sT := same_upd (o := .tup [V.int (i : Nat), V.ref q]) nt
      have s2 := (s0.trans s1).trans sT
      have hcol := (s1.trans sT) _ _ st.col
      have ea : atI [nv c.1, nv c.2] (side : Int) = some (nv (vS (cL cs) (cR cs) side i)) := by
        have : side = 0 ∨ side = 1 := by omega
        rcases this with rfl | rfl
        · rw [show vS (cL cs) (cR cs) 0 i = c.1 from gp.1]; rfl
        · rw [show vS (cL cs) (cR cs) 1 i = c.2 from gp.2]; rfl
      refine ⟨t, _, rfl, SqT.of upd_same, rfl, _, _, rfl, _, _, rfl, rfl, ?_⟩
      refine ⟨_, rfl, _, rfl, .inr (.inl ⟨q, _, _, _, rfl, rfl, SqT.of (s2 _ _ hr2), ea, _, rfl, rfl, _, rfl, ?_⟩)⟩
      by_cases c1 : vS (cL cs) (cR cs) side i = gate
      · refine iteD (by rw [c1]) ?_
        refine ⟨_, rfl, o, _, dx, _, _, rfl, s2 _ _ ho, T.calls, T.cColours, cF_colours, _, rfl, .inl ⟨B, _, _, _, rfl, rfl, SqL.of hcol, ov_at (by rw [st.len]; exact hi), _, rfl, ?_⟩⟩
        refine ⟨by cases hA cols i <;> rfl, _, rfl, ?_⟩
        by_cases c2 : hA cols i = some colour
        · refine iteD (by rw [c2]; rfl) ?_
          refine ⟨_, rfl, ?_⟩
          exact k (some i) _ (s1.trans sT) (fun j e => by obtain rfl := Option.some.inj e; exact ⟨hi, c1, c2⟩) (fun e => by cases e)
        · refine iteDF (fun z => c2 ?_) ?_
          · cases e : hA cols i with
            | none => rw [e] at z; cases z
            | some d =>
              rw [e] at z
              have z1 := V.int.inj z
              congr 1
              omega
          · refine ⟨⟨_, _, rfl⟩, s1.trans sT, fun j hj => ?_⟩
            by_cases e : j = i
            · subst e; exact fun z => c2 z.2
            · exact hno j (by omega)
      · refine iteDF (fun z => c1 (by have z1 := V.int.inj z; omega)) ?_
        refine ⟨⟨_, _, rfl⟩, s1.trans sT, fun j hj => ?_⟩
        by_cases e : j = i
        · subst e; exact fun z => c1 z.1
        · exact hno j (by omega)
    · obtain ⟨⟨x0, y0, rfl⟩, s1, hno⟩ := p
      rw [lts] at hno
      exact k none _ s1 (fun j e => by cases e) (fun _ j hj => hno j hj)
/-! ### first_free -/
def spFirstFree (K : PySem.W.Frag) : Sp := fun vs H Q _ => ∃ (G : Hp) (o B : Addr) (cs : List (Nat × Nat)) (cols : List (Option Nat)) (side gate many : Nat), vs = [.ref o, nv side, nv gate, nv many] ∧ side < 2 ∧ many ≤ 50 ∧ CallSt K G H o B cs cols ∧
  ∀ (r : Option Nat) H', Same H H' → (∀ c, r = some c → c < many ∧ ∀ i, i < cs.length → ¬ cAsk cs cols side gate c i) → (r = none → ∀ c, c < many → ∃ i, i < cs.length ∧ cAsk cs cols side gate c i) → Q (ov r) H'
theorem sc_firstFree : FnScope ["self", "side", "gate", "many", "good", "colour"] ["self", "side", "gate", "many"] (defScope dCallsFirstFree) := ⟨rfl, rfl, rfl, by decide +kernel, rfl, by decide +kernel, by decide +kernel⟩
theorem m_firstFree (T : Tx K mg) (MA : MDef P w K mg base (He.ga K "Calls") "at" 1 ["self", "side", "gate", "colour"] (spCallsAt K)) : MDef P w K mg base (He.ga K "Calls") "first_free" 2 ["self", "side", "gate", "many"] (spFirstFree K) := by
  refine mdef (st := dCallsFirstFree) (q := "Calls.first_free") T (by unfold fn defs1 defs2; simp) (by unfold faC; simp) sc_firstFree (fun vs H Q E h => ?_) (fun _ _ _ _ _ _ us hl => match us, hl with | [_, _, _, _], _ => rfl) (fun f cdv A outer s H vs Q E ec hr h => ?_)
  · obtain ⟨G, o, B, cs, cols, side, gate, many, rfl, _⟩ := h
    rfl
  · obtain ⟨G, o, B, cs, cols, side, gate, many, rfl, hs, hm, st, k⟩ := h
    have nd := sc_firstFree.nd
    refine ⟨_, pss_cons (ps_setLc (i := 4) (own := [("colour", 5)]) (g := gName 5) rfl nd rfl rfl (sw_true rfl rfl rfl (by decide +kernel)) (pi_range1 (by rfl) T.range (pa_cons (pv 3) pa_nil)) (blkOk_by (N := ["self", "side", "gate", "many", "good", "colour"]) (sc := defScope dCallsFirstFree) (by decide +kernel))
        (fun _ _ _ _ _ => pg_name (i := 5) nd rfl (Or.inl rfl)) (fun _ _ _ _ _ => pts_one (pt_cmpR op_isN (pe_m MA T.calls (hr.mono (by decide)) (pv 0) (pa_cons (pv 1) (pa_cons (pv 2) (pa_cons (pv 5) pa_nil)))) pe_non (nomark _))) (fun _ _ _ _ _ => pv 5))
      (pss_one (ps_ret (pe_ifExp (pt_cmpR (op_neNil hr.units) (pv 4) (pe_lst pa_nil) (nomark _)) (pe_ix ix_seq (pv 4) pe_int (fun _ _ => rfl)) pe_non))), ?_⟩
    obtain ⟨dx, A1, l, r, ts, ho, hA1, hT⟩ := st.st
    refine ⟨_, rfl, _, rfl, by omega, by omega, fun D nD => ?_⟩
    refine lc_it walk_range (fun i H1 => Same H H1 ∧ ∃ acc : List Nat, H1 D = some (.lst (acc.map nv)) ∧ acc.length ≤ i ∧ (∀ c ∈ acc, c < i ∧ ∀ j, j < cs.length → ¬ cAsk cs cols side gate c j) ∧ (∀ c, c < i → c ∉ acc → ∃ j, j < cs.length ∧ cAsk cs cols side gate c j))
      ⟨same_upd nD, [], upd_same, Nat.le_refl _, fun c hc => absurd hc List.not_mem_nil, fun c hc => absurd hc (Nat.not_lt_zero c)⟩ (fun _ _ _ _ => trivial) (fun i x H1 H2 hi p y => ?_) (fun H1 p => ?_)
    · obtain ⟨s1, acc, hD, la, ha, hna⟩ := p
      obtain ⟨rfl, hx⟩ := y
      have hx : x = nv i := by rw [hx]; show V.int _ = V.int _; rw [Int.zero_add]
      subst hx
      have hi : i < many := by omega
      refine ⟨rfl, _, rfl, o, dx, _, rfl, s1 _ _ (st.same _ _ ho), cF_at, _, rfl, _, rfl, _, rfl, G, o, B, cs, cols, side, gate, i, rfl, hs, st.keep s1, fun q H3 s3 h1 h2 => ?_⟩
      refine ⟨rfl, _, rfl, ?_⟩
      cases q with
      | none =>
        refine iteD rfl ?_
        refine ⟨_, rfl, _, s3 _ _ hD, small (by rw [List.length_map]; omega), Same.up (s1.trans s3) nD, acc ++ [i], ?_, ?_, ?_, ?_⟩
        · rw [upd_same, List.map_append]; rfl
        · rw [List.length_append]; show acc.length + 1 ≤ _; omega
        · intro c hc
          rcases List.mem_append.mp hc with hc | hc
          · exact ⟨by have := (ha c hc).1; omega, (ha c hc).2⟩
          · rw [List.mem_singleton.mp hc]; exact ⟨by omega, h2 rfl⟩
        · intro c hc hm'
          have ne : c ≠ i := fun z => hm' (List.mem_append_right _ (List.mem_singleton.mpr z))
          exact hna c (by omega) fun z => hm' (List.mem_append_left _ z)
      | some d =>
        refine iteDF (fun z => by cases z) ?_
        refine ⟨s1.trans s3, acc, s3 _ _ hD, by omega, fun c hc => ⟨by have := (ha c hc).1; omega, (ha c hc).2⟩, fun c hc hm' => ?_⟩
        by_cases e : c = i
        · subst e; exact ⟨d, h1 d rfl⟩
        · exact hna c (by omega) hm'
    · obtain ⟨s1, acc, hD, la, ha, hna⟩ := p
      have en : ((many : Nat) : Int).toNat = many := by omega
      rw [en] at ha hna
      refine ⟨_, rfl, Nat.zero_le _, fun D2 nD2 => ?_⟩
      have s2 := same_upd (o := .lst []) nD2
      refine ⟨D, D2, acc, rfl, rfl, s2 _ _ hD, upd_same, _, rfl, ?_⟩
      cases acc with
      | nil =>
        refine iteNS rfl ?_
        exact k none _ (s1.trans s2) (fun c e => by cases e) (fun _ c hc => hna c hc List.not_mem_nil)
      | cons c0 r =>
        refine iteNT (fun z => by cases z) ?_
        refine ⟨_, rfl, .inl ⟨D, _, _, nv c0, rfl, rfl, SqL.of (s2 _ _ hD), at_nv (fs := c0 :: r) (i := 0) (Nat.zero_lt_succ _), ?_⟩⟩
        exact k (some c0) _ (s1.trans s2) (fun c e => by obtain rfl := Option.some.inj e; exact ha c0 List.mem_cons_self) (fun e => by cases e)
end
end Ck
/-! ## text K61Y -/
set_option Elab.async false
set_option linter.all false
set_option maxRecDepth 100000
set_option maxHeartbeats 4000000
namespace Ck
open PySem PySem.Spec PyProof.Rows L2
theorem hA_out {h : List (Option Nat)} {i : Nat} (hi : h.length ≤ i) : hA h i = none := by
  unfold hA
  rw [List.getD_eq_getElem?_getD, List.getElem?_eq_none hi]
  rfl
def flipL (cols : List (Option Nat)) (a b : Nat) (F : List Nat) : List (Option Nat) := (List.range cols.length).map fun e => flipC (hA cols) a b F e
theorem flipL_len (cols : List (Option Nat)) (a b : Nat) (F : List Nat) : (flipL cols a b F).length = cols.length := by unfold flipL; rw [List.length_map, List.length_range]
theorem hA_flipL (cols : List (Option Nat)) (a b : Nat) (F : List Nat) (e : Nat) : hA (flipL cols a b F) e = flipC (hA cols) a b F e := by
  by_cases h : e < cols.length
  · unfold hA flipL
    rw [List.getD_eq_getElem?_getD, List.getElem?_map, List.getElem?_range h]
    rfl
  · rw [hA_out (by rw [flipL_len]; omega), flipC_none.mpr (hA_out (by omega))]
theorem hA_ext {xs ys : List (Option Nat)} (hl : xs.length = ys.length) (h : ∀ i, hA xs i = hA ys i) : xs = ys := by
  refine List.ext_getElem hl fun i h1 h2 => ?_
  have e := h i
  have e1 := hA_get h1
  have e2 := hA_get h2
  rw [List.getElem?_eq_getElem h1] at e1
  rw [List.getElem?_eq_getElem h2] at e2
  rw [Option.some.inj e1, Option.some.inj e2, e]
theorem flipL_nil (cols : List (Option Nat)) (a b : Nat) : flipL cols a b [] = cols := by
  refine hA_ext (flipL_len _ _ _ _) fun i => ?_
  rw [hA_flipL]
  unfold flipC
  rw [if_neg List.not_mem_nil]
theorem flipL_snoc {cols : List (Option Nat)} {a b f c : Nat} {F : List Nat} (hf : f ∉ F) (hl : f < cols.length) (hc : hA cols f = some c) : flipL cols a b (F ++ [f]) = (flipL cols a b F).set f (some (flp a b c)) := by
  refine hA_ext (by rw [flipL_len, List.length_set, flipL_len]) fun i => ?_
  rw [hA_flipL, hA_set (by rw [flipL_len]; exact hl), hA_flipL]
  unfold flipC
  by_cases e : i = f
  · subst e
    rw [if_pos rfl, if_pos (List.mem_append_right _ (List.mem_singleton.mpr rfl)), hc]
    rfl
  · rw [if_neg e]
    by_cases m : i ∈ F
    · rw [if_pos m, if_pos (List.mem_append_left _ m)]
    · rw [if_neg m, if_neg fun z => by
        rcases List.mem_append.mp z with z | z
        · exact m z
        · exact e (List.mem_singleton.mp z)]
theorem CallSt.put {K : PySem.W.Frag} {G H : Hp} {o B : Addr} {cs : List (Nat × Nat)} {cols cols' : List (Option Nat)} (c : CallSt K G H o B cs cols) (l : cols'.length = cols.length) : CallSt K G (upd H B (.lst (cols'.map ov))) o B cs cols' :=
  ⟨Same.up c.same c.fresh, c.fresh, c.st, upd_same, by rw [l, c.len]⟩
section
variable {P : Program} {w : World} {K : PySem.W.Frag} {mg : Str → Option Value} {base : Heap}
def spCallsEx (K : PySem.W.Frag) : Sp := fun vs H Q _ => ∃ (G : Hp) (o B : Addr) (cs : List (Nat × Nat)) (cols : List (Option Nat)) (start a b hv : Nat), vs = [.ref o, nv start, nv a, nv b] ∧ CallSt K G H o B cs cols ∧ a ≠ b ∧ Snd (cL cs) (cR cs) (hA cols) ∧
  (∀ e, cL cs e = hv → hA cols e ≠ some a) ∧ (∀ e, cR cs e = start → hA cols e ≠ some b) ∧ cs.length ≤ 100 ∧
  ∀ p H' cols', CallSt K G H' o B cs cols' → Snd (cL cs) (cR cs) (hA cols') → (∀ e, cL cs e = hv → hA cols' e ≠ some a) → (∀ e, cR cs e = start → hA cols' e ≠ some a) → (∀ e, hA cols' e = none ↔ hA cols e = none) →
    (∀ m, a < m → b < m → (∀ e d, hA cols e = some d → d < m) → ∀ e d, hA cols' e = some d → d < m) → Q (.ref p) H'
abbrev nCX : List Str := ["self", "start", "here", "other", "side", "gate", "colour", "found", "number"]
theorem sc_callsEx : FnScope nCX ["self", "start", "here", "other"] (defScope dCallsExchange) := ⟨rfl, rfl, rfl, by decide +kernel, rfl, by decide +kernel, by decide +kernel⟩
theorem m_callsEx (T : Tx K mg) (MA : MDef P w K mg base (He.ga K "Calls") "at" 1 ["self", "side", "gate", "colour"] (spCallsAt K)) : MDef P w K mg base (He.ga K "Calls") "exchange" 2 ["self", "start", "here", "other"] (spCallsEx K) := by
  refine mdef (st := dCallsExchange) (q := "Calls.exchange") T (by unfold fn defs1 defs2; simp) (by unfold faC; simp) sc_callsEx (fun vs H Q E h => ?_) (fun _ _ _ _ _ _ us hl => match us, hl with | [_, _, _, _], _ => rfl) (fun f cdv A outer s H vs Q E ec hr h => ?_)
  · obtain ⟨G, o, B, cs, cols, start, a, b, hv, rfl, _⟩ := h
    rfl
  · obtain ⟨G, o, B, cs, cols, start, a, b, hv, rfl, st, hab, S, na, nb, lc, k⟩ := h
    have nd := sc_callsEx.nd
    refine ⟨_, pss_cons (ps_asg (pe_tup (pa_cons pe_int (pa_cons (pv 1) (pa_cons (pv 2) (pa_cons (pe_lst pa_nil) pa_nil))))) (pg_tup rfl (pgs_cons (pg_name (i := 4) nd rfl (Or.inl rfl)) (pgs_cons (pg_name (i := 5) nd rfl (Or.inl rfl)) (pgs_cons (pg_name (i := 6) nd rfl (Or.inl rfl)) (pgs_cons (pg_name (i := 7) nd rfl (Or.inl rfl)) pgs_nil))))))
      (pss_cons (ps_set (i := 8) nd rfl (.inl rfl) (pe_m MA T.calls (hr.mono (by decide)) (pv 0) (pa_cons (pv 4) (pa_cons (pv 5) (pa_cons (pv 6) pa_nil)))))
      (pss_cons (ps_while PassesOwn.never (pt_cmpR op_notN (pv 8) pe_non (nomark _))
          (pss_cons (ps_expr (pe_bm PySem.F.plainAttrs_list PySem.F.slot_list_append PySem.F.type_list_append mt_append (pv 7) (pa_cons (pv 8) pa_nil)))
          (pss_cons (ps_set (i := 4) nd rfl (.inl rfl) (pe_op op_subE pe_int (pv 4)))
          (pss_cons (ps_set (i := 5) nd rfl (.inl rfl) (pe_ix ix_seq (pe_ix ix_seq (pe_fld (pv 0) rfl) (pv 8) (fun _ _ => rfl)) (pv 4) (fun _ _ => rfl)))
          (pss_cons (ps_set (i := 6) nd rfl (.inl rfl) (pe_ifExp (pt_cmpR op_eq (pv 6) (pv 2) (nomark _)) (pv 3) (pv 2)))
          (pss_one (ps_set (i := 8) nd rfl (.inl rfl) (pe_m MA T.calls (hr.mono (by decide)) (pv 0) (pa_cons (pv 4) (pa_cons (pv 5) (pa_cons (pv 6) pa_nil)))))))))))
      (pss_cons (ps_for PassesOwn.never rfl (pi_list (pv 7)) (pg_name (i := 8) nd rfl (Or.inl rfl))
          (pss_one (ps_asg (pe_ifExp (pt_cmpR op_eq (pe_ix ix_seq (pe_fld (pv 0) rfl) (pv 8) (fun _ _ => rfl)) (pv 2) (nomark _)) (pv 3) (pv 2)) (pg_sub (pe_fld (pv 0) rfl) (pv 8) set_list))))
      (pss_one (ps_ret (pe_tupleOf (by rfl) T.tuple (pv 7))))))), ?_⟩
    obtain ⟨dx, A1, l, r, ts, ho, hA1, hT⟩ := id st.st
    refine ⟨_, rfl, _, rfl, Nat.zero_le _, fun F nF => ⟨show 4 ≤ sizeLine by decide, fun t nt => ?_⟩⟩
    have q1 := same_upd (o := .lst []) nF
    have hF1 : upd H F (.lst []) F = some (.lst []) := upd_same
    generalize upd H F (.lst []) = H1 at *
    have q2 := same_upd (o := .tup [V.int 1, nv start, nv a, V.ref F]) nt
    have ht2 : upd H1 t (.tup [V.int 1, nv start, nv a, V.ref F]) t = some (.tup [V.int 1, nv start, nv a, V.ref F]) := upd_same
    have hF2 := q2 _ _ hF1
    refine ⟨t, _, rfl, SqT.of ht2, rfl, _, _, rfl, _, _, rfl, _, _, rfl, _, _, rfl, rfl, ?_⟩
    generalize upd H1 t (.tup [V.int 1, nv start, nv a, V.ref F]) = H2 at *
    have s2 := q1.trans q2
    have FB : F ≠ B := fun z => by rw [z, st.col] at nF; cases nF
    refine ⟨_, rfl, o, dx, _, rfl, s2 _ _ (st.same _ _ ho), cF_at, _, rfl, _, rfl, _, rfl, G, o, B, cs, cols, 1, start, a, rfl, by decide, st.keep s2, fun q H3 s3 h1 h2 => ?_⟩
    refine ⟨fun m σ H4 => ∃ (found : List Nat) (side w c : Nat) (q : Option Nat), m = cs.length - found.length ∧ σ = [some (.ref o), some (nv start), some (nv a), some (nv b), some (nv side), some (nv w), some (nv c), some (.ref F), some (ov q)] ∧ side < 2 ∧ Same H H4 ∧ H4 F = some (.lst (found.map nv)) ∧
        XI (cL cs) (cR cs) (hA cols) a b start hv found side w c ∧ (∀ e ∈ found, e < cs.length) ∧ (∀ i, q = some i → i < cs.length ∧ cAsk cs cols side w c i) ∧ (q = none → ∀ i, i < cs.length → ¬ cAsk cs cols side w c i),
      ⟨_, [], 1, start, a, q, rfl, rfl, by decide, s2.trans s3, s3 _ _ hF2, XI.init nb, fun e he => absurd he List.not_mem_nil, h1, h2⟩, ?_⟩
    rintro m σ H4 ⟨found, side, w, c, q, rfl, rfl, hs, s4, hF4, X, fl, k1, k2⟩
    refine ⟨_, rfl, rfl, _, rfl, ?_⟩
    cases q with
    | some f =>
      obtain ⟨fL, fw, fc⟩ := k1 f rfl
      have fn := X.i2 f fw fc
      have ndf : (f :: found).Nodup := List.nodup_cons.mpr ⟨fn, X.nd⟩
      have lf : found.length < cs.length := by
        have := ndf.length_le_of_subset (l₂ := List.range cs.length) (fun x hx => by
          rcases List.mem_cons.mp hx with rfl | hx
          · exact List.mem_range.mpr fL
          · exact List.mem_range.mpr (fl x hx))
        rw [List.length_cons, List.length_range] at this
        omega
      refine iteT ?_
      refine ⟨_, fun σ' H' z => ⟨_, (by omega : cs.length - (found.length + 1) < cs.length - found.length), z⟩, ?_⟩
      refine ⟨_, rfl, .inl ⟨rfl, _, SqL.of hF4⟩, _, rfl, F, _, _, rfl, rfl, hF4, small (by rw [List.length_map]; omega), ?_⟩
      have s5 : Same H (upd H4 F (.lst (found.map nv ++ [nv f]))) := Same.up s4 nF
      have hF5 : upd H4 F (.lst (found.map nv ++ [nv f])) F = some (.lst ((found ++ [f]).map nv)) := by rw [upd_same, List.map_append]; rfl
      show tSeq _ _ _ _ (upd H4 F (.lst (found.map nv ++ [nv f])))
      generalize upd H4 F (.lst (found.map nv ++ [nv f])) = H5 at *
      refine ⟨_, rfl, _, _, nv (1 - side), rfl, rfl, ?_, ?_⟩
      · show V.int ((1 : Int) - (side : Int)) = V.int ((1 - side : Nat) : Int)
        congr 1
        omega
      have sG := st.same.trans s5
      have hf1 : ∃ cc, cs[f]? = some cc := ⟨cs[f], List.getElem?_eq_getElem fL⟩
      obtain ⟨cc, hcc⟩ := hf1
      have gp := getD_pair hcc
      have hrow : (cs.map fun c => [nv c.1, nv c.2])[f]? = some [nv cc.1, nv cc.2] := by rw [List.getElem?_map, hcc]; rfl
      obtain ⟨tf, htf, htf'⟩ := hT.get hrow
      have a1 : atI (ts.map V.ref) (f : Int) = some (.ref tf) := atI_nat (by rw [List.getElem?_map, htf]; rfl)
      have a2 : atI [nv cc.1, nv cc.2] ((1 - side : Nat) : Int) = some (nv (vS (cL cs) (cR cs) (1 - side) f)) := by
        have : side = 0 ∨ side = 1 := by omega
        rcases this with rfl | rfl
        · rw [show vS (cL cs) (cR cs) (1 - 0) f = cc.2 from gp.2]; rfl
        · rw [show vS (cL cs) (cR cs) (1 - 1) f = cc.1 from gp.1]; rfl
      refine ⟨_, rfl, o, _, dx, _, _, rfl, sG _ _ ho, T.calls, T.cCalls, cF_calls, _, rfl, .inl ⟨A1, _, _, _, rfl, rfl, SqL.of (sG _ _ hA1), a1, _, rfl, .inr (.inl ⟨tf, _, _, _, rfl, rfl, SqT.of (sG _ _ htf'), a2, ?_⟩)⟩⟩
      have X2 := X.step S hab na fw fc
      have fl2 : ∀ e ∈ found ++ [f], e < cs.length := fun e he => by
        rcases List.mem_append.mp he with he | he
        · exact fl e he
        · rw [List.mem_singleton.mp he]; exact fL
      have l2 : cs.length - (found.length + 1) = cs.length - (found ++ [f]).length := by rw [List.length_append]; rfl
      refine ⟨_, rfl, _, rfl, rfl, _, rfl, ?_⟩
      by_cases ca : c = a
      · have ef : flp a b c = b := by rw [ca, flp_a]
        rw [ef] at X2
        refine iteD (by rw [ca]) ?_
        refine ⟨_, rfl, ?_⟩
        refine ⟨_, rfl, o, dx, _, rfl, sG _ _ ho, cF_at, _, rfl, _, rfl, _, rfl, G, o, B, cs, cols, 1 - side, _, b, rfl, by omega, st.keep s5, fun q H6 s6 h1 h2 => ?_⟩
        exact ⟨found ++ [f], 1 - side, _, b, q, l2, rfl, by omega, s5.trans s6, s6 _ _ hF5, X2, fl2, h1, h2⟩
      · have ef : flp a b c = a := by unfold flp; rw [if_neg ca]
        rw [ef] at X2
        refine iteDF (fun z => ca (by have z1 := V.int.inj z; omega)) ?_
        refine ⟨_, rfl, ?_⟩
        refine ⟨_, rfl, o, dx, _, rfl, sG _ _ ho, cF_at, _, rfl, _, rfl, _, rfl, G, o, B, cs, cols, 1 - side, _, a, rfl, by omega, st.keep s5, fun q H6 s6 h1 h2 => ?_⟩
        exact ⟨found ++ [f], 1 - side, _, a, q, l2, rfl, by omega, s5.trans s6, s6 _ _ hF5, X2, fl2, h1, h2⟩
    | none =>
      refine iteF ?_
      have stop : ∀ e, vS (cL cs) (cR cs) side e = w → hA cols e ≠ some c := by
        intro e h1 h2
        by_cases le : e < cs.length
        · exact k2 rfl e le ⟨h1, h2⟩
        · rw [hA_out (by rw [st.len]; omega)] at h2
          cases h2
      obtain ⟨z1, z2, z3⟩ := X.last S hab na nb stop
      refine ⟨_, rfl, F, rfl, ⟨_, SqL.of hF4⟩, ?_⟩
      refine for_it walk_list (fun i σ H5 => (∃ y, σ = [some (.ref o), some (nv start), some (nv a), some (nv b), some (nv side), some (nv w), some (nv c), some (.ref F), y]) ∧ CallSt K G H5 o B cs (flipL cols a b (found.take i)) ∧ H5 F = some (.lst (found.map nv)))
        ⟨⟨_, rfl⟩, by rw [List.take_zero, flipL_nil]; exact st.keep s4, hF4⟩ (fun i σ H1 _ p => SqL.of p.2.2) (fun i x σ H5 H6 hi p y => ?_) (fun σ H5 p => ?_)
      · obtain ⟨⟨y0, rfl⟩, st5, hF5⟩ := p
        obtain ⟨rfl, hx⟩ := y
        obtain ⟨hi', rfl⟩ := nv_get' hx
        have fL := fl _ (List.getElem_mem hi')
        have fnot : found[i] ∉ found.take i := by
          intro hm
          obtain ⟨j, hj, e⟩ := List.mem_iff_getElem.mp hm
          rw [List.getElem_take] at e
          have hj2 : j < i := by rw [List.length_take] at hj; omega
          exact (List.pairwise_iff_getElem.mp X.nd j i (by omega) hi' hj2) e
        have hcol : hA cols found[i] = some a ∨ hA cols found[i] = some b := X.edges _ (List.getElem_mem hi')
        have hnow : hA (flipL cols a b (found.take i)) found[i] = hA cols found[i] := by
          rw [hA_flipL]
          unfold flipC
          rw [if_neg fnot]
        have tk : found.take (i + 1) = found.take i ++ [found[i]] := by rw [List.take_add_one, List.getElem?_eq_getElem hi']; rfl
        have lF : found[i] < (flipL cols a b (found.take i)).length := by rw [flipL_len, st.len]; exact fL
        have fin : ∀ d, hA cols found[i] = some d → CallSt K G (upd H6 B (.lst (((flipL cols a b (found.take i)).map ov).set found[i] (nv (flp a b d))))) o B cs (flipL cols a b (found.take (i + 1))) ∧ upd H6 B (.lst (((flipL cols a b (found.take i)).map ov).set found[i] (nv (flp a b d)))) F = some (.lst (found.map nv)) := by
          intro d hd
          have e1 : ((flipL cols a b (found.take i)).map ov).set found[i] (nv (flp a b d)) = (flipL cols a b (found.take (i + 1))).map ov := by
            rw [tk, flipL_snoc fnot (by rw [st.len]; exact fL) hd, List.map_set]
            rfl
          rw [e1]
          exact ⟨st5.put (by rw [flipL_len, flipL_len]), by rw [upd_ne FB]; exact hF5⟩
        refine ⟨_, rfl, o, _, dx, _, _, rfl, st5.same _ _ ho, T.calls, T.cColours, cF_colours, _, rfl, .inl ⟨B, _, _, _, rfl, rfl, SqL.of st5.col, ov_at lF, _, rfl, ?_⟩⟩
        rw [hnow]
        rcases hcol with hd | hd
        · rw [hd]
          have fa := fin a hd
          rw [flp_a] at fa
          refine ⟨rfl, _, rfl, iteD rfl ?_⟩
          refine ⟨_, rfl, _, rfl, o, _, dx, _, _, rfl, st5.same _ _ ho, T.calls, T.cColours, cF_colours, _, rfl, B, _, _, found[i], rfl, rfl, st5.col, ixN_nat (by rw [List.length_map]; exact lF), ⟨_, rfl⟩, fa.1, fa.2⟩
        · rw [hd]
          have fa := fin b hd
          rw [flp_b hab] at fa
          refine ⟨rfl, _, rfl, iteDF (fun z => hab (by have z1 := V.int.inj z; omega)) ?_⟩
          refine ⟨_, rfl, _, rfl, o, _, dx, _, _, rfl, st5.same _ _ ho, T.calls, T.cColours, cF_colours, _, rfl, B, _, _, found[i], rfl, rfl, st5.col, ixN_nat (by rw [List.length_map]; exact lF), ⟨_, rfl⟩, fa.1, fa.2⟩
      · obtain ⟨⟨y0, rfl⟩, st5, hF5⟩ := p
        rw [List.length_map, List.take_length] at st5
        refine ⟨_, rfl, .inl ⟨F, _, rfl, SqL.of hF5, fun q nq => ?_⟩⟩
        have e : hA (flipL cols a b found) = flipC (hA cols) a b found := funext fun e => hA_flipL cols a b found e
        refine k q _ (flipL cols a b found) (st5.keep (same_upd nq)) (by rw [e]; exact z1) (by rw [e]; exact z2) (by rw [e]; exact z3) (fun e' => by rw [e]; exact flipC_none) (fun m ha hb hC e' d hd => ?_)
        rw [e] at hd
        exact flipC_lt ha hb hC hd
end
end Ck
/-! ## text K61Z -/
set_option Elab.async false
set_option linter.all false
set_option maxRecDepth 100000
set_option maxHeartbeats 4000000
namespace Ck
open PySem PySem.Spec PyProof.Rows L2
section
variable {P : Program} {w : World} {K : PySem.W.Frag} {mg : Str → Option Value} {base : Heap}
/-! ### colour -/
def spColour (K : PySem.W.Frag) : Sp := fun vs H Q _ => ∃ (G : Hp) (o B : Addr) (cs : List (Nat × Nat)) (cols : List (Option Nat)) (number many : Nat), vs = [.ref o, nv number, nv many] ∧ number < cs.length ∧ many ≤ 50 ∧ CallSt K G H o B cs cols ∧ hA cols number = none ∧
  Snd (cL cs) (cR cs) (hA cols) ∧ (∀ e d, hA cols e = some d → d < many) ∧ cs.length ≤ 100 ∧ (∀ side, side < 2 → ∃ c, c < many ∧ ∀ i, i < cs.length → ¬ cAsk cs cols side (vS (cL cs) (cR cs) side number) c i) ∧
  ∀ v H' cols', CallSt K G H' o B cs cols' → Snd (cL cs) (cR cs) (hA cols') → (∀ e d, hA cols' e = some d → d < many) → (∀ e, hA cols' e = none ↔ (hA cols e = none ∧ e ≠ number)) → Q v H'
theorem sc_colour : FnScope ["self", "number", "many", "one", "other", "mine", "theirs", "moved"] ["self", "number", "many"] (defScope dCallsColour) := ⟨rfl, rfl, rfl, by decide +kernel, rfl, by decide +kernel, by decide +kernel⟩
theorem m_colour (T : Tx K mg) (MA : MDef P w K mg base (He.ga K "Calls") "at" 1 ["self", "side", "gate", "colour"] (spCallsAt K)) (MF : MDef P w K mg base (He.ga K "Calls") "first_free" 2 ["self", "side", "gate", "many"] (spFirstFree K))
    (MX : MDef P w K mg base (He.ga K "Calls") "exchange" 2 ["self", "start", "here", "other"] (spCallsEx K)) : MDef P w K mg base (He.ga K "Calls") "colour" 3 ["self", "number", "many"] (spColour K) := by
  refine mdef (st := dCallsColour) (q := "Calls.colour") T (by unfold fn defs1 defs2; simp) (by unfold faC; simp) sc_colour (fun vs H Q E h => ?_) (fun _ _ _ _ _ _ us hl => match us, hl with | [_, _, _], _ => rfl) (fun f cdv A outer s H vs Q E ec hr h => ?_)
  · obtain ⟨G, o, B, cs, cols, number, many, rfl, _⟩ := h
    rfl
  · obtain ⟨G, o, B, cs, cols, number, many, rfl, hn, hm, st, cn, S, bd, lc, free, k⟩ := h
    have nd := sc_colour.nd
    refine ⟨_, pss_cons (ps_asg (pe_ix ix_seq (pe_fld (pv 0) rfl) (pv 1) (fun _ _ => rfl)) (pg_tup rfl (pgs_cons (pg_name (i := 3) nd rfl (Or.inl rfl)) (pgs_cons (pg_name (i := 4) nd rfl (Or.inl rfl)) pgs_nil))))
      (pss_cons (ps_par (i := 5) (j := 6) rfl nd rfl rfl (by decide) rfl rfl (pa_cons (pe_m MF T.calls (hr.mono (by decide)) (pv 0) (pa_cons pe_int (pa_cons (pv 3) (pa_cons (pv 2) pa_nil)))) (pa_cons (pe_m MF T.calls (hr.mono (by decide)) (pv 0) (pa_cons pe_int (pa_cons (pv 4) (pa_cons (pv 2) pa_nil)))) pa_nil)) rfl)
      (pss_cons (ps_if (PW.pt (pw_or (pt_cmpR op_isN (pv 5) pe_non (nomark _)) (pw_or1 (pt_cmpR op_isN (pv 6) pe_non (nomark _))))) (pss_one ps_never) pss_nil)
      (pss_cons (ps_set (i := 7) nd rfl (.inl rfl) (pe_tup pa_nil))
      (pss_cons (ps_if (pt_cmpR op_notN (pe_m MA T.calls (hr.mono (by decide)) (pv 0) (pa_cons pe_int (pa_cons (pv 4) (pa_cons (pv 5) pa_nil)))) pe_non (nomark _))
          (pss_one (ps_set (i := 7) nd rfl (.inl rfl) (pe_m MX T.calls (hr.mono (by decide)) (pv 0) (pa_cons (pv 4) (pa_cons (pv 5) (pa_cons (pv 6) pa_nil)))))) pss_nil)
      (pss_cons (ps_asg (pv 5) (pg_sub (pe_fld (pv 0) rfl) (pv 1) set_list))
      (pss_one (ps_ret (pv 7)))))))), ?_⟩
    obtain ⟨dx, A1, l, r, ts, ho, hA1, hT⟩ := id st.st
    obtain ⟨cc, hcc⟩ : ∃ cc, cs[number]? = some cc := ⟨cs[number], List.getElem?_eq_getElem hn⟩
    obtain ⟨gl, gr⟩ := getD_pair hcc
    have hrow : (cs.map fun c => [nv c.1, nv c.2])[number]? = some [nv cc.1, nv cc.2] := by rw [List.getElem?_map, hcc]; rfl
    obtain ⟨tf, htf, htf'⟩ := hT.get hrow
    have a1 : atI (ts.map V.ref) (number : Int) = some (.ref tf) := atI_nat (by rw [List.getElem?_map, htf]; rfl)
    have f0 := free 0 (by decide)
    have f1 := free 1 (by decide)
    rw [show vS (cL cs) (cR cs) 0 number = cc.1 from gl] at f0
    rw [show vS (cL cs) (cR cs) 1 number = cc.2 from gr] at f1
    refine ⟨_, rfl, o, _, dx, _, _, rfl, st.same _ _ ho, T.calls, T.cCalls, cF_calls, _, rfl, .inl ⟨A1, _, _, _, rfl, rfl, SqL.of (st.same _ _ hA1), a1, tf, _, rfl, SqT.of (st.same _ _ htf'), rfl, _, _, rfl, _, _, rfl, rfl, ?_⟩⟩
    refine ⟨_, rfl, o, dx, _, rfl, st.same _ _ ho, cF_ff, _, rfl, _, rfl, G, o, B, cs, cols, 0, cc.1, many, rfl, by decide, hm, st, fun q1 H1 s1 p1 p2 => ?_⟩
    cases q1 with
    | none =>
      obtain ⟨c, hc, hno⟩ := f0
      obtain ⟨i, hi, ha⟩ := p2 rfl c hc
      exact absurd ha (hno i hi)
    | some a =>
    obtain ⟨am, afree⟩ := p1 a rfl
    refine ⟨_, rfl, o, dx, _, rfl, s1 _ _ (st.same _ _ ho), cF_ff, _, rfl, _, rfl, G, o, B, cs, cols, 1, cc.2, many, rfl, by decide, hm, st.keep s1, fun q2 H2 s2 p3 p4 => ?_⟩
    cases q2 with
    | none =>
      obtain ⟨c, hc, hno⟩ := f1
      obtain ⟨i, hi, ha⟩ := p4 rfl c hc
      exact absurd ha (hno i hi)
    | some b =>
    obtain ⟨bm, bfree⟩ := p3 b rfl
    have s12 := s1.trans s2
    have na : ∀ e, cL cs e = cc.1 → hA cols e ≠ some a := fun e h1 h2 => by
      by_cases le : e < cs.length
      · exact afree e le ⟨h1, h2⟩
      · rw [hA_out (by rw [st.len]; omega)] at h2; cases h2
    have nb : ∀ e, cR cs e = cc.2 → hA cols e ≠ some b := fun e h1 h2 => by
      by_cases le : e < cs.length
      · exact bfree e le ⟨h1, h2⟩
      · rw [hA_out (by rw [st.len]; omega)] at h2; cases h2
    refine ⟨_, _, rfl, ?_⟩
    refine ⟨_, rfl, rfl, _, rfl, iteDF (fun z => by cases z) ?_⟩
    refine ⟨_, rfl, rfl, _, rfl, iteDF (fun z => by cases z) ?_⟩
    refine ⟨Nat.zero_le _, fun t nt => ?_⟩
    have s3 := s12.trans (same_upd (o := .tup []) nt)
    generalize upd H2 t (.tup []) = H3 at *
    -- the end, whatever was moved
    have fin : ∀ (H5 : Hp) (cols' : List (Option Nat)) (v : V), CallSt K G H5 o B cs cols' → Snd (cL cs) (cR cs) (hA cols') → (∀ e, cL cs e = cc.1 → hA cols' e ≠ some a) → (∀ e, cR cs e = cc.2 → hA cols' e ≠ some a) → (∀ e, hA cols' e = none ↔ hA cols e = none) → (∀ e d, hA cols' e = some d → d < many) →
        Q v (upd H5 B (.lst ((cols'.map ov).set number (nv a)))) := by
      intro H5 cols' v st5 S5 n0 n1 hnn hb5
      have ln : number < cols'.length := by rw [st5.len]; exact hn
      have e1 : (cols'.map ov).set number (nv a) = (cols'.set number (some a)).map ov := by rw [List.map_set]; rfl
      rw [e1]
      have hs : hA (cols'.set number (some a)) = fun e => if e = number then some a else hA cols' e := funext fun e => hA_set ln
      refine k v _ (cols'.set number (some a)) (st5.put (List.length_set ..)) ?_ ?_ ?_
      · rw [hs]
        exact S5.put (fun e he => n0 e (he.trans gl)) fun e he => n1 e (he.trans gr)
      · rw [hs]
        intro e d hd
        have hd : (if e = number then some a else hA cols' e) = some d := hd
        by_cases c : e = number
        · rw [if_pos c] at hd
          rw [← Option.some.inj hd]
          exact am
        · rw [if_neg c] at hd
          exact hb5 e d hd
      · rw [hs]
        intro e
        show (if e = number then some a else hA cols' e) = none ↔ _
        by_cases c : e = number
        · rw [if_pos c]
          exact ⟨fun z => absurd z (by simp), fun z => absurd c z.2⟩
        · rw [if_neg c]
          exact ⟨fun z => ⟨(hnn e).mp z, c⟩, fun z => (hnn e).mpr z.1⟩
    refine ⟨_, rfl, o, dx, _, rfl, s3 _ _ (st.same _ _ ho), cF_at, _, rfl, _, rfl, G, o, B, cs, cols, 1, cc.2, a, rfl, by decide, st.keep s3, fun q3 H4 s4 p5 p6 => ?_⟩
    have s34 := s3.trans s4
    refine ⟨rfl, _, rfl, ?_⟩
    cases q3 with
    | none =>
      refine iteF ?_
      have n1 : ∀ e, cR cs e = cc.2 → hA cols e ≠ some a := fun e h1 h2 => by
        by_cases le : e < cs.length
        · exact p6 rfl e le ⟨h1, h2⟩
        · rw [hA_out (by rw [st.len]; omega)] at h2; cases h2
      refine ⟨_, rfl, _, rfl, o, _, dx, _, _, rfl, s34 _ _ (st.same _ _ ho), T.calls, T.cColours, cF_colours, _, rfl, B, _, _, number, rfl, rfl, s34 _ _ st.col, ixN_nat (by rw [List.length_map, st.len]; exact hn), _, rfl, ?_⟩
      exact fin H4 cols _ (st.keep s34) S na n1 (fun e => Iff.rfl) bd
    | some f =>
      refine iteT ?_
      obtain ⟨fl, fR, fC⟩ := p5 f rfl
      have hab : a ≠ b := fun z => nb f fR (z ▸ fC)
      refine ⟨_, rfl, o, dx, _, rfl, s34 _ _ (st.same _ _ ho), cF_ex, _, rfl, _, rfl, _, rfl, G, o, B, cs, cols, cc.2, a, b, cc.1, rfl, st.keep s34, hab, S, na, nb, lc, fun p H5 cols' st5 S5 n0 n1 hnn hb5 => ?_⟩
      refine ⟨_, rfl, _, rfl, o, _, dx, _, _, rfl, st5.same _ _ ho, T.calls, T.cColours, cF_colours, _, rfl, B, _, _, number, rfl, rfl, st5.col, ixN_nat (by rw [List.length_map, st5.len]; exact hn), _, rfl, ?_⟩
      exact fin H5 cols' _ st5 S5 n0 n1 hnn (hb5 many am bm bd)
end
end Ck
/-! ## text L61B -/
set_option Elab.async false
set_option linter.all false
set_option maxRecDepth 100000
set_option maxHeartbeats 4000000
namespace Ck
open PySem PySem.Spec PyProof.Rows L2
theorem LcT.keep {H1 H H' : Hp} {D : Addr} {rows : Nat → List (List V)} {i : Nat} (q : LcT H1 D rows i H) (s : Same H H') : LcT H1 D rows i H' := by
  obtain ⟨a, ts, b, c⟩ := q
  exact ⟨a.trans s, ts, s _ _ b, c.same s⟩
section
variable {P : Program} {w : World} {K : PySem.W.Frag} {mg : Str → Option Value} {base : Heap}
def spAssigned (K : PySem.W.Frag) : Sp := fun vs H Q _ => ∃ (a : Addr) (ps : List (Option Nat)) (n g : Nat), vs = [.ref a, nv g] ∧ H a = some (.tup (ps.map ov)) ∧ Valid ps n ∧ (g = 1 ∨ g = 2) ∧ n ≤ 50 ∧ TT K H ∧
  ∀ p H' res, Same H H' → H' p = some (.tup (res.map ov)) → AsgOk ps n g res → Q (.ref p) H'
abbrev nAS : List Str := ["pairs", "gates", "calls", "wide", "coloured", "number", "found", "place", "gate", "one"]
theorem sc_assigned : FnScope nAS ["pairs", "gates"] (defScope dAssigned) := ⟨rfl, rfl, rfl, by decide +kernel, rfl, by decide +kernel, by decide +kernel⟩
theorem g_assigned (T : Tx K mg) (KC : KDef P w K mg base "Calls" (He.ga K "Calls") 2 ["self", "calls", "left", "right"] (spCallsInit K)) (MC : MDef P w K mg base (He.ga K "Calls") "colour" 3 ["self", "number", "many"] (spColour K)) :
    GDef P w K mg base "assigned" 4 ["pairs", "gates"] (spAssigned K) := by
  refine gdef (st := dAssigned) T (by unfold fn defs1 defs2 defs3; simp) (by unfold faG; simp) sc_assigned (fun vs H Q E h => ?_) (fun _ _ _ _ _ _ us hl => match us, hl with | [_, _], _ => rfl) (fun f cdv A outer s H vs Q E ec hr h => ?_)
  · obtain ⟨a, ps, n, g, rfl, _⟩ := h
    rfl
  · obtain ⟨a, ps, n, g, rfl, ha, va, hg, hn, tt, k⟩ := h
    have nd := sc_assigned.nd
    refine ⟨_, pss_cons (ps_setLc (i := 2) (own := [("one", 9), ("gate", 8)]) (g := gTup K 2 (gCons (gName 9) (gCons (gName 8) gNil))) rfl nd rfl rfl (sw_true rfl rfl rfl (by decide +kernel)) (pi_enumT (by rfl) T.enumerate (pa_cons (pv 0) pa_nil)) (blkOk_by (N := nAS) (sc := defScope dAssigned) (by decide +kernel))
        (fun _ _ _ _ _ => pg_tup rfl (pgs_cons (pg_name (i := 9) nd rfl (Or.inl rfl)) (pgs_cons (pg_name (i := 8) nd rfl (Or.inl rfl)) pgs_nil))) (fun _ _ _ _ _ => pts_one (pt_cmpR op_notN (pv 8) pe_non (nomark _)))
        (fun _ _ _ _ _ => pe_tup (pa_cons (pe_op op_fdivE (pv 9) (pv 1)) (pa_cons (pe_op op_fdivE (pv 8) (pv 1)) pa_nil))))
      (pss_cons (ps_set (i := 3) nd rfl (.inl rfl) (pe_op op_fdivE (pe_op op_subE (pe_op op_addE (pe_callB call_lenE (by rfl) T.len PySem.boot_len (pa_cons (pv 0) pa_nil)) (pv 1)) pe_int) (pv 1)))
      (pss_cons (ps_set (i := 4) nd rfl (.inl rfl) (pe_k KC (hr.mono (by decide)) (by rfl) (pa_cons (pv 2) (pa_cons (pv 3) (pa_cons (pv 3) pa_nil)))))
      (pss_cons (ps_for PassesOwn.never rfl (pi_range1 (by rfl) T.range (pa_cons (pe_callB call_len_seq (by rfl) T.len PySem.boot_len (pa_cons (pv 2) pa_nil)) pa_nil)) (pg_name (i := 5) nd rfl (Or.inl rfl))
        (pss_one (ps_expr (pe_m MC T.calls (hr.mono (by decide)) (pv 4) (pa_cons (pv 5) (pa_cons (pv 1) pa_nil))))))
      (pss_cons (ps_par (i := 6) (j := 7) rfl nd rfl rfl (by decide) rfl rfl (pa_cons (pe_lst pa_nil) (pa_cons pe_int pa_nil)) rfl)
      (pss_cons (ps_for PassesOwn.never rfl (pi_tup (pv 0)) (pg_name (i := 8) nd rfl (Or.inl rfl))
        (pss_cons (ps_expr (pe_bm PySem.F.plainAttrs_list PySem.F.slot_list_append PySem.F.type_list_append mt_append (pv 6) (pa_cons (pe_ifExp (pt_cmpR op_isN (pv 8) pe_non (nomark _)) pe_non (pe_ix ix_seq (pe_fld (pv 4) rfl) (pv 7) (fun _ _ => rfl))) pa_nil)))
        (pss_one (ps_aug (i := 7) nd rfl (.inl rfl) (pe_callTy call_int1 (by rfl) T.int (by decide +kernel) (pa_cons (pe_cmpR op_notN (pv 8) pe_non (nomark _)) pa_nil)) ip_add))))
      (pss_one (ps_ret (pe_tupleOf (by rfl) T.tuple (pv 6))))))))), ?_⟩
    have gpos : 0 < g := by omega
    refine ⟨_, rfl, a, _, rfl, SqT.of ha, fun D nD => ?_⟩
    refine lc_it walk_enumT (LcT H D fun i => (csOf ps g i).map fun c => [nv c.1, nv c.2]) (lcT_start nD rfl) (fun i H1 _ p => SqT.of (p.1 _ _ ha)) (fun i x H1 H2 hi p y => ?_) (fun H1 p => ?_)
    · obtain ⟨t, u, v, rfl, nt, rfl, e1, e2⟩ := y
      obtain rfl : V.int (i : Nat) = u := Option.some.inj e1
      obtain ⟨hi', rfl⟩ := ov_get e2
      have hps : hA ps i = ps[i] := by
        have := hA_get hi'
        rw [List.getElem?_eq_getElem hi'] at this
        exact (Option.some.inj this).symm
      have sT := same_upd (o := .tup [V.int (i : Nat), ov ps[i]]) nt
      refine ⟨t, _, rfl, SqT.of upd_same, rfl, _, _, rfl, _, _, rfl, rfl, rfl, ?_⟩
      refine ⟨_, rfl, rfl, _, rfl, ?_⟩
      have hsu : csOf ps g (i + 1) = csOf ps g i ++ (match ps[i] with | some p => [(i / g, p / g)] | none => []) := by
        unfold csOf
        rw [pairsUp_succ, hps, List.map_append]
        congr 1
        cases ps[i] <;> rfl
      cases e : ps[i] with
      | none =>
        refine iteF ?_
        rw [e] at hsu
        rw [e] at sT
        refine lcT_skip (p.keep sT) ?_
        show (csOf ps g (i + 1)).map _ = _
        rw [hsu, List.append_nil]
      | some q =>
        refine iteT ?_
        rw [e] at hsu sT
        refine ⟨_, rfl, _, rfl, _, _, nv (i / g), rfl, rfl, ⟨by omega, by omega⟩, rfl, _, rfl, _, rfl, _, _, nv (q / g), rfl, rfl, ⟨by omega, by omega⟩, rfl, show 2 ≤ sizeLine by decide, fun z nz => ?_⟩
        refine lcT_put nD (p.keep sT) nz ?_ ?_
        · show (csOf ps g (i + 1)).map _ = _
          rw [hsu, List.map_append]
          rfl
        · show ((csOf ps g i).map _).length ≤ 100
          unfold csOf
          rw [List.length_map, List.length_map]
          have := pairsUp_len ps i
          have := va.len
          omega
    have lps : (ps.map ov).length = n := by rw [List.length_map, va.len]
    rw [lps] at p
    obtain ⟨s1, ts, hD, hts⟩ := p
    have lcs : (csOf ps g n).length = (pairsUp ps n).length := by unfold csOf; rw [List.length_map]
    have lpu := pairsUp_len ps n
    refine ⟨_, rfl, a, _, nv n, rfl, .inr (SqT.of (s1 _ _ ha)), by rw [lps]; rfl, _, rfl, _, _, nv (n + g), rfl, rfl, by rfl, _, _, nv (n + g - 1), rfl, rfl, ?_, _, rfl, _, _, nv ((n + g - 1) / g), rfl, rfl, ⟨by omega, by omega⟩, rfl, ?_⟩
    · show V.int (((n + g : Nat) : Int) - 1) = V.int ((n + g - 1 : Nat) : Int)
      congr 1
      omega
    refine ⟨_, rfl, _, rfl, _, rfl, fun x dx nx ndx hne => ?_⟩
    have wide : ∀ i, i < n → i / g < (n + g - 1) / g := by
      intro i hi
      rcases hg with rfl | rfl <;> omega
    refine ⟨H1, x, dx, D, _, _, ts, csOf ps g n, rfl, Same.up (same_upd ndx) nx, nx, upd_same, hD, hts, fun c hc => ?_, by omega, tt.same s1, fun G B H2 sG nB st => ⟨rfl, ?_⟩⟩
    · unfold csOf at hc
      obtain ⟨⟨i, q⟩, hm, rfl⟩ := List.mem_map.mp hc
      obtain ⟨hi, hq⟩ := pairsUp_mem hm
      have li : i < ps.length := by rw [va.len]; exact hi
      have hmem : some q ∈ ps := by
        have := hA_get li
        rw [hq] at this
        exact List.mem_of_getElem? this
      exact ⟨wide i hi, wide q (va.lt q hmem)⟩
    have s2 := sG.trans st.same
    refine ⟨_, rfl, D, _, rfl, .inl (SqL.of (s2 _ _ hD)), _, rfl, (by rw [List.length_map, hts.length, List.length_map]; omega), (by rw [List.length_map, hts.length, List.length_map]; omega), ?_⟩
    have elt : (((ts.map V.ref).length : Nat) : Int).toNat = (csOf ps g n).length := by rw [List.length_map, hts.length, List.length_map]; omega
    refine for_it walk_range (fun i σ H3 => (∃ x5 x6 x7 x8 x9, σ = [some (.ref a), some (nv g), some (.ref D), some (nv ((n + g - 1) / g)), some (.ref x), x5, x6, x7, x8, x9]) ∧ ∃ cols, CallSt K G H3 x B (csOf ps g n) cols ∧ Snd (cL (csOf ps g n)) (cR (csOf ps g n)) (hA cols) ∧ (∀ e d, hA cols e = some d → d < g) ∧ ∀ e, e < (csOf ps g n).length → (hA cols e = none ↔ i ≤ e))
      ⟨⟨_, _, _, _, _, rfl⟩, _, st, ?_, ?_, ?_⟩ (fun _ _ _ _ _ => trivial) (fun i z σ H3 H4 hi p y => ?_) (fun σ H3 p => ?_)
    · intro i j c h1 h2
      have : hA (List.replicate (csOf ps g n).length (none : Option Nat)) i = none := by
        unfold hA
        rw [List.getD_eq_getElem?_getD, List.getElem?_replicate]
        split <;> rfl
      rw [this] at h1; cases h1
    · intro e d h1
      have : hA (List.replicate (csOf ps g n).length (none : Option Nat)) e = none := by
        unfold hA
        rw [List.getD_eq_getElem?_getD, List.getElem?_replicate]
        split <;> rfl
      rw [this] at h1; cases h1
    · intro e he
      have : hA (List.replicate (csOf ps g n).length (none : Option Nat)) e = none := by
        unfold hA
        rw [List.getD_eq_getElem?_getD, List.getElem?_replicate]
        split <;> rfl
      rw [this]
      exact ⟨fun _ => Nat.zero_le _, fun _ => rfl⟩
    · obtain ⟨⟨x5, x6, x7, x8, x9, rfl⟩, cols, st3, S3, b3, n3⟩ := p
      obtain ⟨rfl, hz⟩ := y
      have hz : z = nv i := by rw [hz]; show V.int _ = V.int _; rw [Int.zero_add]
      subst hz
      rw [elt] at hi
      obtain ⟨dx3, A3, l3, r3, ts3, ho3, _⟩ := st3.st
      have ci : hA cols i = none := (n3 i hi).mpr (Nat.le_refl _)
      refine ⟨_, rfl, x, dx3, _, rfl, st3.same _ _ ho3, cF_col, _, rfl, _, rfl, G, x, B, csOf ps g n, cols, i, g, rfl, hi, by omega, st3, ci, S3, b3, by omega, fun side hs => ?_, fun v H5 cols' st5 S5 b5 n5 => ?_⟩
      · -- a free colour
        have F1 : ∀ k, k < (csOf ps g n).length → ∃ pr, (pairsUp ps n)[k]? = some pr ∧ cL (csOf ps g n) k = pr.1 / g ∧ cR (csOf ps g n) k = pr.2 / g := by
          intro k hk
          refine ⟨(pairsUp ps n)[k]'(by omega), List.getElem?_eq_getElem (by omega), ?_⟩
          have : (csOf ps g n)[k]? = some (((pairsUp ps n)[k]'(by omega)).1 / g, ((pairsUp ps n)[k]'(by omega)).2 / g) := by
            unfold csOf
            rw [List.getElem?_map, List.getElem?_eq_getElem (by omega)]
            rfl
          exact getD_pair this
        have inj1 : ∀ i j, i < (csOf ps g n).length → j < (csOf ps g n).length → ((pairsUp ps n).getD i (0, 0)).1 = ((pairsUp ps n).getD j (0, 0)).1 → i = j := by
          intro i j hi hj e
          obtain ⟨⟨a1, b1⟩, h1, _⟩ := F1 i hi
          obtain ⟨⟨a2, b2⟩, h2, _⟩ := F1 j hj
          rw [List.getD_eq_getElem?_getD, List.getD_eq_getElem?_getD, h1, h2] at e
          have e : a1 = a2 := e
          rw [pairsUp_ix h1, pairsUp_ix h2, e]
        have inj2 : ∀ i j, i < (csOf ps g n).length → j < (csOf ps g n).length → ((pairsUp ps n).getD i (0, 0)).2 = ((pairsUp ps n).getD j (0, 0)).2 → i = j := by
          intro i j hi hj e
          obtain ⟨⟨a1, b1⟩, h1, _⟩ := F1 i hi
          obtain ⟨⟨a2, b2⟩, h2, _⟩ := F1 j hj
          rw [List.getD_eq_getElem?_getD, List.getD_eq_getElem?_getD, h1, h2] at e
          have e : b1 = b2 := e
          have m1 := (pairsUp_mem (List.mem_of_getElem? h1)).2
          have m2 := (pairsUp_mem (List.mem_of_getElem? h2)).2
          rw [pairsUp_ix h1, pairsUp_ix h2, valid_inj va m1 (e ▸ m2)]
        have same1 : ∀ k, k < (csOf ps g n).length → cL (csOf ps g n) k = ((pairsUp ps n).getD k (0, 0)).1 / g ∧ cR (csOf ps g n) k = ((pairsUp ps n).getD k (0, 0)).2 / g := by
          intro k hk
          obtain ⟨pr, h1, h2, h3⟩ := F1 k hk
          rw [List.getD_eq_getElem?_getD, h1]
          exact ⟨h2, h3⟩
        have : side = 0 ∨ side = 1 := by omega
        rcases this with rfl | rfl
        · obtain ⟨c, hc, no⟩ := free_col hg inj1 hi ci
          refine ⟨c, hc, fun j hj q => no j hj ⟨?_, q.2⟩⟩
          rw [← (same1 j hj).1, ← (same1 i hi).1]
          exact q.1
        · obtain ⟨c, hc, no⟩ := free_col hg inj2 hi ci
          refine ⟨c, hc, fun j hj q => no j hj ⟨?_, q.2⟩⟩
          rw [← (same1 j hj).2, ← (same1 i hi).2]
          exact q.1
      · refine ⟨⟨_, _, _, _, _, rfl⟩, cols', st5, S5, b5, fun e he => ?_⟩
        rw [n5 e, n3 e he]
        omega
    · obtain ⟨⟨x5, x6, x7, x8, x9, rfl⟩, cols, st3, S3, b3, n3⟩ := p
      rw [elt] at n3
      have all : ∀ e, e < (csOf ps g n).length → hA cols e ≠ none := fun e he z => by have := (n3 e he).mp z; omega
      obtain ⟨dx3, A3, l3, r3, ts3, ho3, _⟩ := id st3.st
      have s13 : Same H1 H3 := sG.trans st3.same
      refine ⟨Nat.zero_le _, fun F nF => ⟨_, _, rfl, ?_⟩⟩
      have q1 := same_upd (o := .lst []) nF
      have hF2 : upd H3 F (.lst []) F = some (.lst []) := upd_same
      generalize upd H3 F (.lst []) = H5 at *
      have s15 := s13.trans q1
      have nF1 : H1 F = none := s13.free nF
      refine ⟨_, rfl, a, rfl, ⟨_, SqT.of ((s1.trans s15) _ _ ha)⟩, ?_⟩
      refine for_it walk_tup (fun i σ H6 => (∃ x8 x9, σ = [some (.ref a), some (nv g), some (.ref D), some (nv ((n + g - 1) / g)), some (.ref x), x5, some (.ref F), some (nv (pairsUp ps i).length), x8, x9]) ∧ Same H3 H6 ∧ H6 F = some (.lst (((List.range i).map (asg ps cols)).map ov)))
        ⟨⟨_, _, rfl⟩, q1, hF2⟩ (fun i σ H6 _ p => SqT.of ((s1.trans (s13.trans p.2.1)) _ _ ha)) (fun i z σ H6 H7 hi p y => ?_) (fun σ H6 p => ?_)
      · obtain ⟨⟨x8, x9, rfl⟩, s6, hF6⟩ := p
        obtain ⟨rfl, hz⟩ := y
        obtain ⟨hi', rfl⟩ := ov_get hz
        have hi2 : i < n := by rw [← va.len]; exact hi'
        have hps : hA ps i = ps[i] := by
          have := hA_get hi'
          rw [List.getElem?_eq_getElem hi'] at this
          exact (Option.some.inj this).symm
        have hsu := pairsUp_succ ps i
        have fin : ∀ v, v = ov (asg ps cols i) → Same H3 (upd H7 F (.lst (((List.range i).map (asg ps cols)).map ov ++ [v]))) ∧ upd H7 F (.lst (((List.range i).map (asg ps cols)).map ov ++ [v])) F = some (.lst (((List.range (i + 1)).map (asg ps cols)).map ov)) := by
          intro v hv
          exact ⟨Same.up s6 nF, by rw [upd_same, rmap_succ, List.map_append, hv]; rfl⟩
        have sz : (((List.range i).map (asg ps cols)).map ov).length < sizeLine := small (by rw [List.length_map, List.length_map, List.length_range]; omega)
        refine ⟨_, rfl, .inl ⟨rfl, _, SqL.of hF6⟩, ?_⟩
        refine ⟨_, rfl, rfl, _, rfl, ?_⟩
        rw [hps] at hsu
        cases e : ps[i] with
        | none =>
          rw [e] at hsu
          have ea : asg ps cols i = none := by unfold asg; rw [hps, e]; rfl
          obtain ⟨f1, f2⟩ := fin .non (by rw [ea]; rfl)
          refine iteT ?_
          refine ⟨F, _, _, rfl, rfl, hF6, sz, ?_⟩
          refine ⟨_, rfl, _, rfl, rfl, .inr ⟨_, rfl, _, _, rfl, rfl, ⟨some (ov none), x9, ?_⟩, f1, f2⟩⟩
          rw [hsu, List.append_nil]
          have e0 : V.int (((pairsUp ps i).length : Int) + 0) = nv (pairsUp ps i).length := by show V.int _ = V.int _; rw [Int.add_zero]
          exact congrArg (fun v => [some (V.ref a), some (nv g), some (V.ref D), some (nv ((n + g - 1) / g)), some (V.ref x), x5, some (V.ref F), some v, some (ov none), x9]) e0
        | some q =>
          rw [e] at hsu
          have hq : hA ps i = some q := by rw [hps, e]
          have lk : (pairsUp ps i).length < cols.length := by
            rw [st3.len, lcs]
            exact (List.getElem?_eq_some_iff.mp (pairsUp_at hq hi2)).1
          have ea : asg ps cols i = hA cols (pairsUp ps i).length := by unfold asg; rw [hq]; rfl
          obtain ⟨f1, f2⟩ := fin (ov (hA cols (pairsUp ps i).length)) (by rw [ea])
          refine iteF ?_
          refine ⟨_, rfl, x, _, dx3, _, _, rfl, (s6 _ _ (st3.same _ _ ho3)), T.calls, T.cColours, cF_colours, _, rfl, .inl ⟨B, _, _, _, rfl, rfl, SqL.of (s6 _ _ st3.col), ov_at lk, ?_⟩⟩
          refine ⟨F, _, _, rfl, rfl, hF6, sz, ?_⟩
          refine ⟨_, rfl, _, rfl, rfl, .inr ⟨_, rfl, _, _, rfl, rfl, ⟨some (ov (some q)), x9, ?_⟩, f1, f2⟩⟩
          rw [hsu, List.length_append]
          rfl
      · obtain ⟨⟨x8, x9, rfl⟩, s6, hF6⟩ := p
        rw [lps] at hF6
        refine ⟨_, rfl, .inl ⟨F, _, rfl, SqL.of hF6, fun q nq => ?_⟩⟩
        refine k q _ ((List.range n).map (asg ps cols)) (((s1.trans s13).trans s6).trans (same_upd nq)) upd_same (asg_ok va (fun i j d h1 h2 ne => S3 i j d h1 h2 ne) b3 fun e he => all e (by omega))
end
end Ck
/-! ## text L61C -/
set_option Elab.async false
set_option linter.all false
set_option maxRecDepth 100000
set_option maxHeartbeats 4000000
namespace Ck
open PySem PySem.Spec PyProof.Rows L2
/-! ### a Clos: one entry a call -/
abbrev Ent := Nat × Nat × Nat
def eFind (es : List Ent) (k : Nat) : Option (Nat × Nat) := (es.find? fun e => e.1 == k).map (·.2)
theorem eFind_mem {es : List Ent} {k b c : Nat} (h : eFind es k = some (b, c)) : (k, b, c) ∈ es := by
  unfold eFind at h
  obtain ⟨e, he, e2⟩ := Option.map_eq_some_iff.mp h
  have h1 := List.mem_of_find?_eq_some he
  have h2 := List.find?_some he
  obtain ⟨a, bc⟩ := e
  have h2 : a = k := by simpa using h2
  have e2 : bc = (b, c) := e2
  rw [← h2, ← e2]
  exact h1
theorem eFind_none {es : List Ent} {k : Nat} : eFind es k = none ↔ k ∉ es.map (·.1) := by
  unfold eFind
  rw [Option.map_eq_none_iff, List.find?_eq_none]
  constructor
  · intro h hm
    obtain ⟨e, he, e2⟩ := List.mem_map.mp hm
    exact h e he (by simp [e2])
  · intro h e he hk
    exact h (List.mem_map.mpr ⟨e, he, by simpa using hk⟩)
theorem eFind_of {es : List Ent} (nd : (es.map (·.1)).Nodup) {k b c : Nat} (h : (k, b, c) ∈ es) : eFind es k = some (b, c) := by
  induction es with
  | nil => cases h
  | cons e r ih =>
    rw [List.map_cons, List.nodup_cons] at nd
    unfold eFind
    rw [List.find?_cons]
    rcases List.mem_cons.mp h with h | h
    · subst h
      simp
    · have ne : (e.1 == k) = false := by
        rw [beq_eq_false_iff_ne]
        intro z
        exact nd.1 (List.mem_map.mpr ⟨_, h, z.symm⟩)
      rw [ne]
      exact ih nd.2 h
def EntAt (H : Hp) (kv : Key × V) (e : Ent) : Prop := kv.1 = Sum.inl (e.1 : Int) ∧ ∃ t, kv.2 = .ref t ∧ H t = some (.tup [nv e.2.1, nv e.2.2])
theorem EntAt.same {H H' : Hp} {kv : Key × V} {e : Ent} (h : EntAt H kv e) (s : Same H H') : EntAt H' kv e := by
  obtain ⟨a, t, b, c⟩ := h
  exact ⟨a, t, b, s _ _ c⟩
theorem EntAt.lock {H : Hp} {D : Addr} {kv : Key × V} {e : Ent} {kvs : List (Key × V)} {u : HO} (h : EntAt H kv e) (hD : H D = some (.dK kvs)) : EntAt (upd H D u) kv e := by
  obtain ⟨a, t, b, c⟩ := h
  exact ⟨a, t, b, by rw [upd_ne (ne_of c hD (by intro z; cases z))]; exact c⟩
def Ents (H : Hp) (kvs : List (Key × V)) (es : List Ent) : Prop := Paired (EntAt H) kvs es
theorem Ents.same {H H' : Hp} {kvs : List (Key × V)} {es : List Ent} (h : Ents H kvs es) (s : Same H H') : Ents H' kvs es := Paired.mapP h fun _ _ e => EntAt.same e s
theorem Ents.lock {H : Hp} {D : Addr} {kvs ks : List (Key × V)} {es : List Ent} {u : HO} (h : Ents H kvs es) (hD : H D = some (.dK ks)) : Ents (upd H D u) kvs es := Paired.mapP h fun _ _ e => EntAt.lock e hD
theorem Ents.length {H : Hp} {kvs : List (Key × V)} {es : List Ent} (h : Ents H kvs es) : kvs.length = es.length := Paired.length h
theorem Ents.find {H : Hp} : ∀ {kvs : List (Key × V)} {es : List Ent}, Ents H kvs es → ∀ k : Nat, (eFind es k = none → valV kvs (Sum.inl (k : Int)) = none) ∧ ∀ b c, eFind es k = some (b, c) → ∃ t, valV kvs (Sum.inl (k : Int)) = some (.ref t) ∧ H t = some (.tup [nv b, nv c])
  | [], [], _, k => ⟨fun _ => rfl, fun b c h => (by simp [eFind] at h)⟩
  | kv :: kvs, e :: es, .cons h t, k => by
    obtain ⟨h1, t0, h2, h3⟩ := h
    have ih := Ents.find t k
    by_cases c : e.1 = k
    · have ef : eFind (e :: es) k = some e.2 := by
        unfold eFind
        rw [List.find?_cons]
        simp [c]
      have ev : valV (kv :: kvs) (Sum.inl (k : Int)) = some kv.2 := valV_pos (by rw [h1, c])
      refine ⟨fun z => (by rw [ef] at z; cases z), fun b d z => ?_⟩
      rw [ef] at z
      have z := Option.some.inj z
      rw [z] at h3
      exact ⟨t0, by rw [ev, h2], h3⟩
    · have ef : eFind (e :: es) k = eFind es k := by
        unfold eFind
        rw [List.find?_cons]
        have : (e.1 == k) = false := beq_eq_false_iff_ne.mpr c
        rw [this]
      have ev : valV (kv :: kvs) (Sum.inl (k : Int)) = valV kvs (Sum.inl (k : Int)) := valV_neg (by
        rw [h1]
        intro z
        have z2 := Sum.inl.inj z
        exact c (by omega))
      rw [ef, ev]
      exact ih
theorem Ents.isSome {H : Hp} {kvs : List (Key × V)} {es : List Ent} (h : Ents H kvs es) (k : Nat) : (valV kvs (Sum.inl (k : Int))).isSome = (eFind es k).isSome := by
  obtain ⟨a, b⟩ := h.find k
  cases e : eFind es k with
  | none => rw [a e]; rfl
  | some bc =>
    obtain ⟨t, ht, _⟩ := b bc.1 bc.2 e
    rw [ht]; rfl
theorem Ents.keys {H : Hp} : ∀ {kvs : List (Key × V)} {es : List Ent}, Ents H kvs es → kvs.map (·.1) = (es.map fun e => ((e.1 : Nat) : Int)).map Sum.inl
  | [], [], _ => rfl
  | kv :: kvs, e :: es, .cons h t => by
    show kv.1 :: kvs.map (·.1) = Sum.inl (e.1 : Int) :: _
    rw [h.1, Ents.keys t]
theorem LcP.keep {H1 H H' : Hp} {D : Addr} {acc : Nat → List V} {i : Nat} (p : LcP H1 D acc i H) (s : Same H H') : LcP H1 D acc i H' := ⟨p.1.trans s, s _ _ p.2⟩
def closF (mid g s : Nat) (D : Addr) : List (Str × V) := [("middle", nv mid), ("gates", nv g), ("switches", nv s), ("calls", .ref D)]
theorem kF_mid {mid g s : Nat} {D : Addr} : (closF mid g s D).lookup ("middle" : Str) = some (nv mid) := rfl
theorem kF_gates {mid g s : Nat} {D : Addr} : (closF mid g s D).lookup ("gates" : Str) = some (nv g) := rfl
theorem kF_sw {mid g s : Nat} {D : Addr} : (closF mid g s D).lookup ("switches" : Str) = some (nv s) := rfl
theorem kF_calls {mid g s : Nat} {D : Addr} : (closF mid g s D).lookup ("calls" : Str) = some (V.ref D) := rfl
theorem kF_size {mid g s : Nat} {D : Addr} : (closF mid g s D).lookup ("size" : Str) = none := rfl
theorem kF_check {mid g s : Nat} {D : Addr} : (closF mid g s D).lookup ("check" : Str) = none := rfl
theorem kF_ends {mid g s : Nat} {D : Addr} : (closF mid g s D).lookup ("ends" : Str) = none := rfl
theorem kF_ui {mid g s : Nat} {D : Addr} : (closF mid g s D).lookup ("used_in" : Str) = none := rfl
theorem kF_uo {mid g s : Nat} {D : Addr} : (closF mid g s D).lookup ("used_out" : Str) = none := rfl
theorem kF_fm {mid g s : Nat} {D : Addr} : (closF mid g s D).lookup ("free_middle" : Str) = none := rfl
theorem kF_pb {mid g s : Nat} {D : Addr} : (closF mid g s D).lookup ("put_by" : Str) = none := rfl
theorem kF_end {mid g s : Nat} {D : Addr} : (closF mid g s D).lookup ("end" : Str) = none := rfl
theorem kF_pm {mid g s : Nat} {D : Addr} : (closF mid g s D).lookup ("put_moving" : Str) = none := rfl
theorem kF_ex {mid g s : Nat} {D : Addr} : (closF mid g s D).lookup ("exchange" : Str) = none := rfl
theorem kF_at {mid g s : Nat} {D : Addr} : (closF mid g s D).lookup ("at" : Str) = none := rfl
theorem kF_is {mid g s : Nat} {D : Addr} : (closF mid g s D).lookup ("is_sound" : Str) = none := rfl
theorem kF_sh {mid g s : Nat} {D : Addr} : (closF mid g s D).lookup ("shown" : Str) = none := rfl
structure Par where
  mid : Nat
  g : Nat
  s : Nat
structure ParOk (q : Par) : Prop where
  g12 : q.g = 1 ∨ q.g = 2
  m1 : 1 ≤ q.mid
  m3 : q.mid ≤ 3
  s1 : 1 ≤ q.s
  s8 : q.s ≤ 8
structure ClosSt (K : PySem.W.Frag) (G H : Hp) (o D : Addr) (q : Par) (es : List Ent) : Prop where
  same : Same G H
  fresh : G D = none
  st : ∃ dx, G o = some (.ins (He.ga K "Clos") dx (closF q.mid q.g q.s D))
  dict : ∃ kvs, H D = some (.dK kvs) ∧ Ents H kvs es
  nd : (es.map (·.1)).Nodup
  len : es.length ≤ 50
  ok : ParOk q
theorem ClosSt.keep {K : PySem.W.Frag} {G H H' : Hp} {o D : Addr} {q : Par} {es : List Ent} (c : ClosSt K G H o D q es) (s : Same H H') : ClosSt K G H' o D q es := by
  obtain ⟨kvs, h1, h2⟩ := c.dict
  exact ⟨c.same.trans s, c.fresh, c.st, ⟨kvs, s _ _ h1, h2.same s⟩, c.nd, c.len, c.ok⟩
theorem lock_keep {H H1 : Hp} {D : Addr} {kvs : List (Key × V)} {od : Obj} (hD : H D = some (.dK kvs)) (s : Same (upd H D (.frz od (.dK kvs))) H1) : Same H (upd H1 D (.dK kvs)) := fun b o e => by
  by_cases c : b = D
  · subst c
    rw [hD] at e
    rw [upd_same]
    exact e
  · rw [upd_ne c]
    exact s b o (by rw [upd_ne c]; exact e)
theorem lock_none {H : Hp} {D p : Addr} {u : HO} (h : upd H D u p = none) : H p = none ∧ p ≠ D := by
  have c : p ≠ D := fun z => by rw [z, upd_same] at h; cases h
  exact ⟨by rw [upd_ne c] at h; exact h, c⟩
/-- a sorted list of numbers -/
theorem sorted_nat {xs : List Nat} {ns : List Int} (h : ns.Perm (xs.map fun (n : Nat) => (n : Int))) : ∃ us : List Nat, ns.map V.int = us.map nv ∧ us.Perm xs ∧ (ns.Pairwise (· ≤ ·) → us.Pairwise (· ≤ ·)) := by
  have e0 : ∀ l : List Nat, (l.map fun (n : Nat) => (n : Int)).map Int.toNat = l := fun l => by
    rw [List.map_map]
    exact (List.map_congr_left fun x _ => (by show ((x : Int)).toNat = x; omega)).trans (List.map_id' l)
  have pos : ∀ x ∈ ns, 0 ≤ x := fun x hx => by
    obtain ⟨n, _, e⟩ := List.mem_map.mp (h.mem_iff.mp hx)
    omega
  refine ⟨ns.map Int.toNat, ?_, ?_, fun hp => ?_⟩
  · rw [List.map_map]
    refine List.map_congr_left fun x hx => ?_
    show V.int x = V.int ((x.toNat : Nat) : Int)
    have := pos x hx
    congr 1
    omega
  · have := h.map Int.toNat
    rw [e0] at this
    exact this
  · refine List.pairwise_map.mpr (hp.imp fun {a b} hab => ?_)
    omega
section
variable {P : Program} {w : World} {K : PySem.W.Frag} {mg : Str → Option Value} {base : Heap}
theorem Tx.clos (T : Tx K mg) : Cls K (He.ga K "Clos") := T.cl _ (by unfold faC; simp)
theorem Tx.kMid (T : Tx K mg) : NoAttr K (He.ga K "Clos") "middle" := T.na _ _ (by unfold faC; simp)
theorem Tx.kGates (T : Tx K mg) : NoAttr K (He.ga K "Clos") "gates" := T.na _ _ (by unfold faC; simp)
theorem Tx.kSw (T : Tx K mg) : NoAttr K (He.ga K "Clos") "switches" := T.na _ _ (by unfold faC; simp)
theorem Tx.kCalls (T : Tx K mg) : NoAttr K (He.ga K "Clos") "calls" := T.na _ _ (by unfold faC; simp)
/-! ### __init__ -/
def spClosInit (K : PySem.W.Frag) : Sp := fun vs H Q _ => ∃ (H0 : Hp) (o dx : Addr) (q : Par), vs = [.ref o, nv q.mid, nv q.g, nv q.s] ∧ Same H0 H ∧ H0 o = none ∧ H o = some (.ins (He.ga K "Clos") dx []) ∧ ParOk q ∧
  ∀ G D H', Same H0 G → H0 D = none → ClosSt K G H' o D q [] → Q .non H'
theorem sc_closInit : FnScope ["self", "middle", "gates", "switches"] ["self", "middle", "gates", "switches"] (defScope dClosInit) := ⟨rfl, rfl, rfl, by decide +kernel, rfl, by decide +kernel, by decide +kernel⟩
theorem k_clos (T : Tx K mg) : KDef P w K mg base "Clos" (He.ga K "Clos") 1 ["self", "middle", "gates", "switches"] (spClosInit K) := by
  refine kdef (st := dClosInit) (q := "Clos.__init__") T (by unfold fn defs1 defs2; simp) (by unfold faC; simp) (by unfold faG; simp) sc_closInit (fun vs H Q E h => ?_) (fun _ _ _ _ _ _ us hl => match us, hl with | [_, _, _, _], _ => rfl) (fun f cdv A outer s H vs Q E ec hr h => ?_)
  · obtain ⟨H0, o, dx, q, rfl, _⟩ := h
    rfl
  · obtain ⟨H0, o, dx, q, rfl, s0, o0, ho, ok, k⟩ := h
    refine ⟨_, pss_cons (ps_if (PW.pt (pw_or (pt_cmpR op_lt (pv 1) pe_int (nomark _)) (pw_or (pt_cmpR op_lt (pv 2) pe_int (nomark _)) (pw_or1 (pt_cmpR op_lt (pv 3) pe_int (nomark _)))))) (pss_one ps_never) pss_nil)
      (pss_cons (ps_fld (pv 0) (pv 1) rfl) (pss_cons (ps_fld (pv 0) (pv 2) rfl) (pss_cons (ps_fld (pv 0) (pv 3) rfl) (pss_one (ps_fld (pv 0) pe_dnewK rfl))))), ?_⟩
    have g1 : 1 ≤ q.g := by have := ok.g12; omega
    have m1 := ok.m1
    have s1 := ok.s1
    refine ⟨_, rfl, _, _, rfl, rfl, _, rfl, iteDF (by omega) ?_⟩
    refine ⟨_, rfl, _, _, rfl, rfl, _, rfl, iteDF (by omega) ?_⟩
    refine ⟨_, rfl, _, _, rfl, rfl, _, rfl, iteDF (by omega) ?_⟩
    refine ⟨_, rfl, _, rfl, o, _, dx, _, rfl, ho, T.clos, T.kMid, (by show 0 < 1000; decide), ?_⟩
    refine ⟨_, rfl, _, rfl, o, _, dx, _, rfl, upd_same, T.clos, T.kGates, (by show 1 < 1000; decide), ?_⟩
    refine ⟨_, rfl, _, rfl, o, _, dx, _, rfl, upd_same, T.clos, T.kSw, (by show 2 < 1000; decide), fun D nD => ?_⟩
    have s3 : Same H0 (upd (upd (upd H o (.ins (He.ga K "Clos") dx (putF "middle" (nv q.mid) []))) o (.ins (He.ga K "Clos") dx (putF "gates" (nv q.g) (putF "middle" (nv q.mid) [])))) o (.ins (He.ga K "Clos") dx (putF "switches" (nv q.s) (putF "gates" (nv q.g) (putF "middle" (nv q.mid) []))))) := Same.up (Same.up (Same.up s0 o0) o0) o0
    have ho3 : upd (upd (upd H o (.ins (He.ga K "Clos") dx (putF "middle" (nv q.mid) []))) o (.ins (He.ga K "Clos") dx (putF "gates" (nv q.g) (putF "middle" (nv q.mid) [])))) o (.ins (He.ga K "Clos") dx (putF "switches" (nv q.s) (putF "gates" (nv q.g) (putF "middle" (nv q.mid) [])))) o = some (.ins (He.ga K "Clos") dx (putF "switches" (nv q.s) (putF "gates" (nv q.g) (putF "middle" (nv q.mid) [])))) := upd_same
    generalize upd (upd (upd H o (.ins (He.ga K "Clos") dx (putF "middle" (nv q.mid) []))) o (.ins (He.ga K "Clos") dx (putF "gates" (nv q.g) (putF "middle" (nv q.mid) [])))) o (.ins (He.ga K "Clos") dx (putF "switches" (nv q.s) (putF "gates" (nv q.g) (putF "middle" (nv q.mid) [])))) = H3 at *
    have oD : o ≠ D := ne_of_none ho3 nD
    have nD0 : H0 D = none := s3.free nD
    refine ⟨_, rfl, o, _, dx, _, rfl, by rw [upd_ne oD]; exact ho3, T.clos, T.kCalls, (by show 3 < 1000; decide), ?_⟩
    have e1 : putF "calls" (.ref D) (putF "switches" (nv q.s) (putF "gates" (nv q.g) (putF "middle" (nv q.mid) []))) = closF q.mid q.g q.s D := rfl
    rw [e1]
    have s4 : Same H0 (upd (upd H3 D (.dK [])) o (.ins (He.ga K "Clos") dx (closF q.mid q.g q.s D))) := Same.up (Same.up s3 nD0) o0
    refine k (wo (upd (upd H3 D (.dK [])) o (.ins (He.ga K "Clos") dx (closF q.mid q.g q.s D))) D) D _ (same_wo s4 nD0) nD0 ⟨wo_same _ _, wo_self _ _, ⟨dx, by rw [wo_ne oD, upd_same]⟩, ⟨[], by rw [upd_ne (Ne.symm oD), upd_same], .nil⟩, List.nodup_nil, Nat.zero_le _, ok⟩
/-! ### size, ends -/
def spSize (K : PySem.W.Frag) : Sp := fun vs H Q _ => ∃ (G : Hp) (o D : Addr) (q : Par) (es : List Ent), vs = [.ref o] ∧ ClosSt K G H o D q es ∧ Q (nv (q.g * q.s)) H
theorem sc_size : FnScope ["self"] ["self"] (defScope dClosSize) := ⟨rfl, rfl, rfl, by decide +kernel, rfl, by decide +kernel, by decide +kernel⟩
theorem m_size (T : Tx K mg) : MDef P w K mg base (He.ga K "Clos") "size" 1 ["self"] (spSize K) := by
  refine mdef (st := dClosSize) (q := "Clos.size") T (by unfold fn defs1 defs2; simp) (by unfold faC; simp) sc_size (fun vs H Q E h => ?_) (fun _ _ _ _ _ _ us hl => match us, hl with | [_], _ => rfl) (fun f cdv A outer s H vs Q E ec hr h => ?_)
  · obtain ⟨G, o, D, q, es, rfl, _⟩ := h
    rfl
  · obtain ⟨G, o, D, q, es, rfl, st, k⟩ := h
    obtain ⟨dx, ho⟩ := st.st
    refine ⟨_, pss_one (ps_ret (pe_op op_mulE (pe_fld (pv 0) rfl) (pe_fld (pv 0) rfl))), ?_⟩
    have g2 : q.g ≤ 1000 := by have := st.ok.g12; omega
    refine ⟨_, rfl, o, _, dx, _, _, rfl, st.same _ _ ho, T.clos, T.kGates, kF_gates, _, rfl, o, _, dx, _, _, rfl, st.same _ _ ho, T.clos, T.kSw, kF_sw, _, _, nv (q.g * q.s), rfl, rfl, .inl (small64 g2), ?_, k⟩
    show V.int _ = V.int _
    congr 1
def spEnds (K : PySem.W.Frag) : Sp := fun vs H Q _ => ∃ (G : Hp) (o D : Addr) (q : Par) (es : List Ent) (one other : Nat), vs = [.ref o, nv one, nv other] ∧ ClosSt K G H o D q es ∧ ∀ p, H p = none → Q (.ref p) (upd H p (.tup [nv (one / q.g), nv (other / q.g)]))
theorem sc_ends : FnScope ["self", "one", "other"] ["self", "one", "other"] (defScope dClosEnds) := ⟨rfl, rfl, rfl, by decide +kernel, rfl, by decide +kernel, by decide +kernel⟩
theorem cdiv {g : Nat} (h : g = 1 ∨ g = 2) (i : Int) : CDiv i (g : Int) := ⟨by omega, by omega⟩
theorem m_ends (T : Tx K mg) : MDef P w K mg base (He.ga K "Clos") "ends" 1 ["self", "one", "other"] (spEnds K) := by
  refine mdef (st := dClosEnds) (q := "Clos.ends") T (by unfold fn defs1 defs2; simp) (by unfold faC; simp) sc_ends (fun vs H Q E h => ?_) (fun _ _ _ _ _ _ us hl => match us, hl with | [_, _, _], _ => rfl) (fun f cdv A outer s H vs Q E ec hr h => ?_)
  · obtain ⟨G, o, D, q, es, one, other, rfl, _⟩ := h
    rfl
  · obtain ⟨G, o, D, q, es, one, other, rfl, st, k⟩ := h
    obtain ⟨dx, ho⟩ := st.st
    refine ⟨_, pss_one (ps_ret (pe_tup (pa_cons (pe_op op_fdivE (pv 1) (pe_fld (pv 0) rfl)) (pa_cons (pe_op op_fdivE (pv 2) (pe_fld (pv 0) rfl)) pa_nil)))), ?_⟩
    refine ⟨_, rfl, _, rfl, o, _, dx, _, _, rfl, st.same _ _ ho, T.clos, T.kGates, kF_gates, _, _, nv (one / q.g), rfl, rfl, cdiv st.ok.g12 _, rfl, _, rfl, _, rfl, o, _, dx, _, _, rfl, st.same _ _ ho, T.clos, T.kGates, kF_gates, _, _, nv (other / q.g), rfl, rfl, cdiv st.ok.g12 _, rfl, show 2 ≤ sizeLine by decide, ?_⟩
    exact k
/-! ### used_in, used_out -/
def spUsedIn (K : PySem.W.Frag) : Sp := fun vs H Q _ => ∃ (G : Hp) (o D : Addr) (q : Par) (es : List Ent) (sw : Nat), vs = [.ref o, nv sw] ∧ ClosSt K G H o D q es ∧
  ∀ (p : Addr) (H' : Hp) (us : List Nat), Same H H' → H' p = some (.lst (us.map nv)) → us.Perm ((es.filter fun e => e.1 / q.g == sw).map (·.2.2)) → Q (.ref p) H'
theorem sc_usedIn : FnScope ["self", "switch", "one", "call"] ["self", "switch"] (defScope dClosUsedIn) := ⟨rfl, rfl, rfl, by decide +kernel, rfl, by decide +kernel, by decide +kernel⟩
theorem filter_snoc {es : List Ent} {i : Nat} {e : Ent} (f : Ent → Bool) (h : es[i]? = some e) : (es.take (i + 1)).filter f = (es.take i).filter f ++ (if f e = true then [e] else []) := by
  rw [List.take_add_one, h, List.filter_append]
  congr 1
  show ([e].filter f) = _
  rw [List.filter_cons, List.filter_nil]
theorem m_usedIn (T : Tx K mg) : MDef P w K mg base (He.ga K "Clos") "used_in" 1 ["self", "switch"] (spUsedIn K) := by
  refine mdef (st := dClosUsedIn) (q := "Clos.used_in") T (by unfold fn defs1 defs2; simp) (by unfold faC; simp) sc_usedIn (fun vs H Q E h => ?_) (fun _ _ _ _ _ _ us hl => match us, hl with | [_, _], _ => rfl) (fun f cdv A outer s H vs Q E ec hr h => ?_)
  · obtain ⟨G, o, D, q, es, sw, rfl, _⟩ := h
    rfl
  · obtain ⟨G, o, D, q, es, sw, rfl, st, k⟩ := h
    obtain ⟨dx, ho⟩ := st.st
    obtain ⟨kvs, hD, hE⟩ := st.dict
    have nd := sc_usedIn.nd
    refine ⟨_, pss_one (ps_ret (pe_callB cr_sorted (by rfl) T.sorted (by rfl) (pa_cons (pe_lock (pe_lc (own := [("one", 2), ("call", 3)]) (g := gTup K 2 (gCons (gName 2) (gCons (gName 3) gNil))) rfl nd (pi_items (pe_fld (pv 0) rfl))
      (blkOk_by (N := ["self", "switch", "one", "call"]) (sc := defScope dClosUsedIn) (own := [("one", 2), ("call", 3)]) (by decide +kernel)) (fun _ _ _ _ _ => pg_tup rfl (pgs_cons (pg_name (i := 2) nd rfl (Or.inl rfl)) (pgs_cons (pg_name (i := 3) nd rfl (Or.inl rfl)) pgs_nil)))
      (fun _ _ _ _ _ => pts_one (pt_cmpR (ta := tOp (rEC CDiv fun i j => i / j) (tVar 2) (tFld K (tVar 0) "gates")) op_eq (pe_op op_fdivE (pv 2) (pe_fld (pv 0) rfl)) (pv 1) (nomark _)))
      (fun _ _ _ _ _ => pe_ix (r := rIx K) ix_seq (pv 3) pe_int (fun _ _ => rfl)))) pa_nil))), ?_⟩
    have ho1 := st.same _ _ ho
    have oD : o ≠ D := ne_of ho1 hD (by intro z; cases z)
    refine ⟨D, .dK kvs, hD, trivial, fun od => ?_⟩
    have hoL : upd H D (.frz od (.dK kvs)) o = some (.ins (He.ga K "Clos") dx (closF q.mid q.g q.s D)) := by rw [upd_ne oD]; exact ho1
    have hEL : Ents (upd H D (.frz od (.dK kvs))) kvs es := hE.lock hD
    have hDL : upd H D (.frz od (.dK kvs)) D = some (.frz od (.dK kvs)) := upd_same
    have lk := fun H1 => lock_keep (H1 := H1) (od := od) hD
    generalize upd H D (.frz od (.dK kvs)) = HL at *
    refine ⟨_, rfl, o, _, dx, _, _, rfl, hoL, T.clos, T.kCalls, kF_calls, D, od, kvs, rfl, hDL, fun Dl nDl => ?_⟩
    refine lc_it walk_items (LcP HL Dl fun i => (((es.take i).filter fun e => e.1 / q.g == sw).map (·.2.2)).map nv) (lc_start nDl rfl) (fun i H2 _ p => p.1 _ _ hDL) (fun i x H2 H3 hi p y => ?_) (fun H2 p => ?_)
    · obtain ⟨t, u, v, rfl, nt, rfl, e1, e2⟩ := y
      have sT := same_upd (o := .tup [u, v]) nt
      obtain ⟨kv, hkv⟩ : ∃ kv, kvs[i]? = some kv := ⟨kvs[i], List.getElem?_eq_getElem hi⟩
      obtain ⟨e, he, ek, tt, ev, htt⟩ := paired_get hEL hkv
      have e1 : (kvs[i]?.map fun kv => kV kv.1) = some u := e1
      have e2 : kvs[i]?.map Prod.snd = some v := e2
      rw [hkv] at e1 e2
      have e1 : kV kv.1 = u := Option.some.inj e1
      have e2 : kv.2 = v := Option.some.inj e2
      rw [ek] at e1
      rw [ev] at e2
      have e1 : nv e.1 = u := e1
      subst e1 e2
      have s2 := p.1.trans sT
      have fs := filter_snoc (fun e => e.1 / q.g == sw) he
      refine ⟨t, _, rfl, SqT.of upd_same, rfl, _, _, rfl, _, _, rfl, rfl, rfl, ?_⟩
      refine ⟨_, rfl, _, rfl, o, _, dx, _, _, rfl, s2 _ _ hoL, T.clos, T.kGates, kF_gates, _, _, nv (e.1 / q.g), rfl, rfl, cdiv st.ok.g12 _, rfl, _, rfl, rfl, _, rfl, ?_⟩
      by_cases c : e.1 / q.g = sw
      · have cb : (e.1 / q.g == sw) = true := beq_iff_eq.mpr c
        rw [if_pos cb] at fs
        refine iteD (by rw [c]) ?_
        refine ⟨_, rfl, .inr (.inl ⟨tt, _, _, nv e.2.2, rfl, rfl, SqT.of (s2 _ _ htt), rfl, ?_⟩)⟩
        refine lc_put nDl (LcP.keep p sT) (Same.refl _) ?_ ?_
        · show (((es.take (i + 1)).filter _).map _).map nv = _
          rw [fs, List.map_append, List.map_append]
          rfl
        · show ((((es.take i).filter _).map _).map nv).length ≤ 100
          rw [List.length_map, List.length_map]
          have h1 := List.length_filter_le (fun e : Ent => e.1 / q.g == sw) (es.take i)
          rw [List.length_take] at h1
          have := st.len
          omega
      · have cb : ¬ (e.1 / q.g == sw) = true := fun z => c (beq_iff_eq.mp z)
        rw [if_neg cb, List.append_nil] at fs
        refine iteDF (fun z => c (by have z1 := V.int.inj z; omega)) ?_
        refine lc_skip (LcP.keep p sT) ?_
        show (((es.take (i + 1)).filter _).map _).map nv = _
        rw [fs]
    · have hDl : H2 Dl = some (.lst (((es.filter fun e => e.1 / q.g == sw).map (·.2.2)).map nv)) := by
        refine p.2.trans ?_
        show some (HO.lst ((((es.take kvs.length).filter _).map _).map nv)) = _
        rw [hE.length, List.take_length]
      refine ⟨p.1 _ _ hDL, ?_⟩
      have s3 := lk _ p.1
      have nDlD : Dl ≠ D := fun z => by rw [z, hDL] at nDl; cases nDl
      have hDl2 : upd H2 D (.dK kvs) Dl = some (.lst ((((es.filter fun e => e.1 / q.g == sw).map (·.2.2)).map fun (n : Nat) => (n : Int)).map V.int)) := by
        rw [upd_ne nDlD, hDl, List.map_map (l := (es.filter fun e => e.1 / q.g == sw).map (·.2.2))]
        rfl
      refine ⟨Dl, _, rfl, SqL.of hDl2, ?_, fun ns p np hp hs => ?_⟩
      · rw [List.length_map, List.length_map]
        have h1 := List.length_filter_le (fun e : Ent => e.1 / q.g == sw) es
        have := st.len
        omega
      · obtain ⟨us, e1, e2, _⟩ := sorted_nat np
        exact k p _ us (s3.trans (same_upd hs)) (by rw [upd_same, e1]) e2
end
end Ck
/-! ## text L61D -/
set_option Elab.async false
set_option linter.all false
set_option maxRecDepth 100000
set_option maxHeartbeats 4000000
namespace Ck
open PySem PySem.Spec PyProof.Rows L2
theorem u1 {k : Nat} {A : Around} (r : Room k A) : A.units + 1 < cLine := by
  have := r.units
  omega
section
variable {P : Program} {w : World} {K : PySem.W.Frag} {mg : Str → Option Value} {base : Heap}
def spUsedOut (K : PySem.W.Frag) : Sp := fun vs H Q _ => ∃ (G : Hp) (o D : Addr) (q : Par) (es : List Ent) (sw : Nat), vs = [.ref o, nv sw] ∧ ClosSt K G H o D q es ∧
  ∀ (p : Addr) (H' : Hp) (us : List Nat), Same H H' → H' p = some (.lst (us.map nv)) → us.Perm ((es.filter fun e => e.2.1 / q.g == sw).map (·.2.2)) → Q (.ref p) H'
theorem sc_usedOut : FnScope ["self", "switch", "call"] ["self", "switch"] (defScope dClosUsedOut) := ⟨rfl, rfl, rfl, by decide +kernel, rfl, by decide +kernel, by decide +kernel⟩
theorem m_usedOut (T : Tx K mg) : MDef P w K mg base (He.ga K "Clos") "used_out" 1 ["self", "switch"] (spUsedOut K) := by
  refine mdef (st := dClosUsedOut) (q := "Clos.used_out") T (by unfold fn defs1 defs2; simp) (by unfold faC; simp) sc_usedOut (fun vs H Q E h => ?_) (fun _ _ _ _ _ _ us hl => match us, hl with | [_, _], _ => rfl) (fun f cdv A outer s H vs Q E ec hr h => ?_)
  · obtain ⟨G, o, D, q, es, sw, rfl, _⟩ := h
    rfl
  · obtain ⟨G, o, D, q, es, sw, rfl, st, k⟩ := h
    obtain ⟨dx, ho⟩ := st.st
    obtain ⟨kvs, hD, hE⟩ := st.dict
    have nd := sc_usedOut.nd
    refine ⟨_, pss_one (ps_ret (pe_callB cr_sorted (by rfl) T.sorted (by rfl) (pa_cons (pe_lock (pe_lc (own := [("call", 2)]) (g := gName 2) rfl nd (pi_values (pe_fld (pv 0) rfl))
      (blkOk_by (N := ["self", "switch", "call"]) (sc := defScope dClosUsedOut) (own := [("call", 2)]) (by decide +kernel)) (fun _ _ _ _ _ => pg_name (i := 2) nd rfl (Or.inl rfl))
      (fun _ _ _ _ _ => pts_one (pt_cmpR (ta := tOp (rEC CDiv fun i j => i / j) (tOp (rIx K) (tVar 2) (tC (.int 0))) (tFld K (tVar 0) "gates")) op_eq (pe_op op_fdivE (pe_ix (r := rIx K) ix_seq (pv 2) pe_int (fun _ _ => rfl)) (pe_fld (pv 0) rfl)) (pv 1) (nomark _)))
      (fun _ _ _ _ _ => pe_ix (r := rIx K) ix_seq (pv 2) pe_int (fun _ _ => rfl)))) pa_nil))), ?_⟩
    have ho1 := st.same _ _ ho
    have oD : o ≠ D := ne_of ho1 hD (by intro z; cases z)
    refine ⟨D, .dK kvs, hD, trivial, fun od => ?_⟩
    have hoL : upd H D (.frz od (.dK kvs)) o = some (.ins (He.ga K "Clos") dx (closF q.mid q.g q.s D)) := by rw [upd_ne oD]; exact ho1
    have hEL : Ents (upd H D (.frz od (.dK kvs))) kvs es := hE.lock hD
    have hDL : upd H D (.frz od (.dK kvs)) D = some (.frz od (.dK kvs)) := upd_same
    have lk := fun H1 => lock_keep (H1 := H1) (od := od) hD
    generalize upd H D (.frz od (.dK kvs)) = HL at *
    refine ⟨_, rfl, o, _, dx, _, _, rfl, hoL, T.clos, T.kCalls, kF_calls, D, od, kvs, rfl, hDL, fun Dl nDl => ?_⟩
    refine lc_it walk_values (LcP HL Dl fun i => (((es.take i).filter fun e => e.2.1 / q.g == sw).map (·.2.2)).map nv) (lc_start nDl rfl) (fun i H2 _ p => p.1 _ _ hDL) (fun i x H2 H3 hi p y => ?_) (fun H2 p => ?_)
    · obtain ⟨rfl, kk, hkv⟩ := y
      obtain ⟨e, he, ek, tt, ev, htt⟩ := paired_get hEL hkv
      have ev : x = .ref tt := ev
      subst ev
      have s2 := p.1
      have fs := filter_snoc (fun e => e.2.1 / q.g == sw) he
      refine ⟨rfl, ?_⟩
      refine ⟨_, rfl, .inr (.inl ⟨tt, _, _, nv e.2.1, rfl, rfl, SqT.of (s2 _ _ htt), rfl, _, rfl, o, _, dx, _, _, rfl, s2 _ _ hoL, T.clos, T.kGates, kF_gates, _, _, nv (e.2.1 / q.g), rfl, rfl, cdiv st.ok.g12 _, rfl, _, rfl, rfl, _, rfl, ?_⟩)⟩
      by_cases c : e.2.1 / q.g = sw
      · have cb : (e.2.1 / q.g == sw) = true := beq_iff_eq.mpr c
        rw [if_pos cb] at fs
        refine iteD (by rw [c]) ?_
        refine ⟨_, rfl, .inr (.inl ⟨tt, _, _, nv e.2.2, rfl, rfl, SqT.of (s2 _ _ htt), rfl, ?_⟩)⟩
        refine lc_put nDl p (Same.refl _) ?_ ?_
        · show (((es.take (i + 1)).filter _).map _).map nv = _
          rw [fs, List.map_append, List.map_append]
          rfl
        · show ((((es.take i).filter _).map _).map nv).length ≤ 100
          rw [List.length_map, List.length_map]
          have h1 := List.length_filter_le (fun e : Ent => e.2.1 / q.g == sw) (es.take i)
          rw [List.length_take] at h1
          have := st.len
          omega
      · have cb : ¬ (e.2.1 / q.g == sw) = true := fun z => c (beq_iff_eq.mp z)
        rw [if_neg cb, List.append_nil] at fs
        refine iteDF (fun z => c (by have z1 := V.int.inj z; omega)) ?_
        refine lc_skip p ?_
        show (((es.take (i + 1)).filter _).map _).map nv = _
        rw [fs]
    · have hDl : H2 Dl = some (.lst (((es.filter fun e => e.2.1 / q.g == sw).map (·.2.2)).map nv)) := by
        refine p.2.trans ?_
        show some (HO.lst ((((es.take kvs.length).filter _).map _).map nv)) = _
        rw [hE.length, List.take_length]
      refine ⟨p.1 _ _ hDL, ?_⟩
      have s3 := lk _ p.1
      have nDlD : Dl ≠ D := fun z => by rw [z, hDL] at nDl; cases nDl
      have hDl2 : upd H2 D (.dK kvs) Dl = some (.lst ((((es.filter fun e => e.2.1 / q.g == sw).map (·.2.2)).map fun (n : Nat) => (n : Int)).map V.int)) := by
        rw [upd_ne nDlD, hDl, List.map_map (l := (es.filter fun e => e.2.1 / q.g == sw).map (·.2.2))]
        rfl
      refine ⟨Dl, _, rfl, SqL.of hDl2, ?_, fun ns p np hp hs => ?_⟩
      · rw [List.length_map, List.length_map]
        have h1 := List.length_filter_le (fun e : Ent => e.2.1 / q.g == sw) es
        have := st.len
        omega
      · obtain ⟨us, e1, e2, _⟩ := sorted_nat np
        exact k p _ us (s3.trans (same_upd hs)) (by rw [upd_same, e1]) e2
/-! ### check -/
def spClosCheck (K : PySem.W.Frag) : Sp := fun vs H Q _ => ∃ (G : Hp) (o D : Addr) (q : Par) (es : List Ent) (one other : Nat), vs = [.ref o, nv one, nv other] ∧ ClosSt K G H o D q es ∧ one < q.g * q.s ∧ other < q.g * q.s ∧ eFind es one = none ∧ other ∉ es.map (·.2.1) ∧
  ∀ H', Same H H' → Q .non H'
theorem sc_closCheck : FnScope ["self", "one", "other", "call"] ["self", "one", "other"] (defScope dClosCheck) := ⟨rfl, rfl, rfl, by decide +kernel, rfl, by decide +kernel, by decide +kernel⟩
theorem inV_nv (g : Nat) (xs : List Nat) : inV (nv g) (xs.map nv) = decide (g ∈ xs) := by
  induction xs with
  | nil => rfl
  | cons a r ih =>
    show ((eqV (nv a) (nv g)) || inV (nv g) (r.map nv)) = _
    rw [ih]
    show (((a : Int) == (g : Int)) || decide (g ∈ r)) = _
    rw [Bool.eq_iff_iff]
    simp
    constructor
    · rintro (h | h)
      · left; omega
      · right; exact h
    · rintro (h | h)
      · left; omega
      · right; exact h
theorem m_closCheck (T : Tx K mg) (MS : MDef P w K mg base (He.ga K "Clos") "size" 1 ["self"] (spSize K)) : MDef P w K mg base (He.ga K "Clos") "check" 2 ["self", "one", "other"] (spClosCheck K) := by
  refine mdef (st := dClosCheck) (q := "Clos.check") T (by unfold fn defs1 defs2; simp) (by unfold faC; simp) sc_closCheck (fun vs H Q E h => ?_) (fun _ _ _ _ _ _ us hl => match us, hl with | [_, _, _], _ => rfl) (fun f cdv A outer s H vs Q E ec hr h => ?_)
  · obtain ⟨G, o, D, q, es, one, other, rfl, _⟩ := h
    rfl
  · obtain ⟨G, o, D, q, es, one, other, rfl, st, h1, h2, hf, hno, k⟩ := h
    obtain ⟨dx, ho⟩ := st.st
    obtain ⟨kvs, hD, hE⟩ := st.dict
    have nd := sc_closCheck.nd
    refine ⟨_, pss_cons (ps_if (PW.pt (pw_or (pt_not (pt_chain op_le op_lt pe_int (pv 1) (pe_m0 MS T.clos hr (pv 0)))) (pw_or1 (pt_not (pt_chain op_le op_lt pe_int (pv 2) (pe_m0 MS T.clos hr (pv 0))))))) (pss_one ps_never) pss_nil)
      (pss_one (ps_if (PW.pt (pw_or (pt_cmp (pc_din (u1 hr) (pv 1) (pe_fld (pv 0) rfl))) (pw_or1 (pt_cmpR op_in_seq (pv 2) (pe_lock (pe_lc (own := [("call", 3)]) (g := gName 3) (tt := tYes) rfl nd (pi_values (pe_fld (pv 0) rfl))
        (blkOk_by (N := ["self", "one", "other", "call"]) (sc := defScope dClosCheck) (own := [("call", 3)]) (by decide +kernel)) (fun _ _ _ _ _ => pg_name (i := 3) nd rfl (Or.inl rfl)) (fun _ _ _ _ _ => pts_nil)
        (fun _ _ _ _ _ => pe_ix (r := rIx K) ix_seq (pv 3) pe_int (fun _ _ => rfl)))) (by rfl))))) (pss_one ps_never) pss_nil)), ?_⟩
    have ho1 := st.same _ _ ho
    have oD : o ≠ D := ne_of ho1 hD (by intro z; cases z)
    refine ⟨_, rfl, _, _, rfl, rfl, _, rfl, ?_⟩
    refine iteD (by omega) ?_
    refine ⟨_, rfl, o, dx, _, rfl, ho1, kF_size, G, o, D, q, es, rfl, st, _, _, rfl, rfl, _, rfl, ?_⟩
    refine iteNS (by omega) ?_
    refine ⟨_, rfl, _, _, rfl, rfl, _, rfl, ?_⟩
    refine iteD (by omega) ?_
    refine ⟨_, rfl, o, dx, _, rfl, ho1, kF_size, G, o, D, q, es, rfl, st, _, _, rfl, rfl, _, rfl, ?_⟩
    refine iteNS (by omega) ?_
    have vn : valV kvs (Sum.inl (one : Int)) = none := (hE.find one).1 hf
    refine ⟨_, rfl, _, rfl, o, _, dx, _, _, rfl, ho1, T.clos, T.kCalls, kF_calls, D, _, rfl, DGet.k (k := Sum.inl (one : Int)) hD, _, rfl, ?_⟩
    rw [vn]
    refine iteF ?_
    refine ⟨_, rfl, D, .dK kvs, hD, trivial, fun od => ?_⟩
    have hoL : upd H D (.frz od (.dK kvs)) o = some (.ins (He.ga K "Clos") dx (closF q.mid q.g q.s D)) := by rw [upd_ne oD]; exact ho1
    have hEL : Ents (upd H D (.frz od (.dK kvs))) kvs es := hE.lock hD
    have hDL : upd H D (.frz od (.dK kvs)) D = some (.frz od (.dK kvs)) := upd_same
    have lk := fun H1 => lock_keep (H1 := H1) (od := od) hD
    generalize upd H D (.frz od (.dK kvs)) = HL at *
    refine ⟨_, rfl, o, _, dx, _, _, rfl, hoL, T.clos, T.kCalls, kF_calls, D, od, kvs, rfl, hDL, fun Dl nDl => ?_⟩
    refine lc_it walk_values (LcP HL Dl fun i => ((es.take i).map (·.2.1)).map nv) (lc_start nDl rfl) (fun i H2 _ p => p.1 _ _ hDL) (fun i x H2 H3 hi p y => ?_) (fun H2 p => ?_)
    · obtain ⟨rfl, kk, hkv⟩ := y
      obtain ⟨e, he, ek, tt, ev, htt⟩ := paired_get hEL hkv
      have ev : x = .ref tt := ev
      subst ev
      have s2 := p.1
      refine ⟨rfl, tyes ?_⟩
      refine ⟨_, rfl, .inr (.inl ⟨tt, _, _, nv e.2.1, rfl, rfl, SqT.of (s2 _ _ htt), rfl, ?_⟩)⟩
      refine lc_put nDl p (Same.refl _) ?_ ?_
      · rw [List.take_add_one, he, List.map_append, List.map_append]
        rfl
      · rw [List.length_map, List.length_map, List.length_take]
        have := st.len
        omega
    · have hDl : H2 Dl = some (.lst ((es.map (·.2.1)).map nv)) := by
        refine p.2.trans ?_
        show some (HO.lst (((es.take kvs.length).map _).map nv)) = _
        rw [hE.length, List.take_length]
      refine ⟨p.1 _ _ hDL, ?_⟩
      have s3 := lk _ p.1
      have nDlD : Dl ≠ D := fun z => by rw [z, hDL] at nDl; cases nDl
      refine ⟨Dl, _, rfl, .inl (SqL.of (by rw [upd_ne nDlD]; exact hDl)), rfl, flat_nv _, _, rfl, ?_⟩
      rw [inV_nv]
      refine iteDF hno ?_
      exact k _ s3
end
end Ck
/-! ## text L61E -/
set_option Elab.async false
set_option linter.all false
set_option maxRecDepth 100000
set_option maxHeartbeats 4000000
namespace Ck
open PySem PySem.Spec PyProof.Rows L2
def FreeL (q : Par) (es : List Ent) (one other : Nat) (fr : List Nat) : Prop :=
  ∀ c, c ∈ fr ↔ (c < q.mid ∧ (∀ e ∈ es, e.1 / q.g = one / q.g → e.2.2 ≠ c) ∧ ∀ e ∈ es, e.2.1 / q.g = other / q.g → e.2.2 ≠ c)
theorem perm_notin {us : List Nat} {es : List Ent} {f : Ent → Nat} {v c : Nat} (h : us.Perm ((es.filter fun e => f e == v).map (·.2.2))) : c ∉ us ↔ ∀ e ∈ es, f e = v → e.2.2 ≠ c := by
  rw [h.mem_iff, List.mem_map]
  constructor
  · intro n e he hv z
    exact n ⟨e, List.mem_filter.mpr ⟨he, beq_iff_eq.mpr hv⟩, z⟩
  · rintro n ⟨e, he, z⟩
    obtain ⟨a, b⟩ := List.mem_filter.mp he
    exact n e a (beq_iff_eq.mp b) z
section
variable {P : Program} {w : World} {K : PySem.W.Frag} {mg : Str → Option Value} {base : Heap}
def spFreeMid (K : PySem.W.Frag) : Sp := fun vs H Q _ => ∃ (G : Hp) (o D : Addr) (q : Par) (es : List Ent) (one other : Nat), vs = [.ref o, nv one, nv other] ∧ ClosSt K G H o D q es ∧
  ∀ (p : Addr) (H' : Hp) (fr : List Nat), Same H H' → H' p = some (.lst (fr.map nv)) → FreeL q es one other fr → Q (.ref p) H'
abbrev nFM : List Str := ["self", "one", "other", "here", "there", "mine", "theirs", "number"]
theorem sc_freeMid : FnScope nFM ["self", "one", "other"] (defScope dClosFreeMiddle) := ⟨rfl, rfl, rfl, by decide +kernel, rfl, by decide +kernel, by decide +kernel⟩
theorem m_freeMid (T : Tx K mg) (ME : MDef P w K mg base (He.ga K "Clos") "ends" 1 ["self", "one", "other"] (spEnds K)) (MI : MDef P w K mg base (He.ga K "Clos") "used_in" 1 ["self", "switch"] (spUsedIn K))
    (MO : MDef P w K mg base (He.ga K "Clos") "used_out" 1 ["self", "switch"] (spUsedOut K)) : MDef P w K mg base (He.ga K "Clos") "free_middle" 2 ["self", "one", "other"] (spFreeMid K) := by
  refine mdef (st := dClosFreeMiddle) (q := "Clos.free_middle") T (by unfold fn defs1 defs2; simp) (by unfold faC; simp) sc_freeMid (fun vs H Q E h => ?_) (fun _ _ _ _ _ _ us hl => match us, hl with | [_, _, _], _ => rfl) (fun f cdv A outer s H vs Q E ec hr h => ?_)
  · obtain ⟨G, o, D, q, es, one, other, rfl, _⟩ := h
    rfl
  · obtain ⟨G, o, D, q, es, one, other, rfl, st, k⟩ := h
    obtain ⟨dx, ho⟩ := st.st
    have nd := sc_freeMid.nd
    refine ⟨_, pss_cons (ps_asg (pe_m ME T.clos hr (pv 0) (pa_cons (pv 1) (pa_cons (pv 2) pa_nil))) (pg_tup rfl (pgs_cons (pg_name (i := 3) nd rfl (Or.inl rfl)) (pgs_cons (pg_name (i := 4) nd rfl (Or.inl rfl)) pgs_nil))))
      (pss_cons (ps_asg (pe_tup (pa_cons (pe_m MI T.clos hr (pv 0) (pa_cons (pv 3) pa_nil)) (pa_cons (pe_m MO T.clos hr (pv 0) (pa_cons (pv 4) pa_nil)) pa_nil))) (pg_tup rfl (pgs_cons (pg_name (i := 5) nd rfl (Or.inr rfl)) (pgs_cons (pg_name (i := 6) nd rfl (Or.inr rfl)) pgs_nil))))
      (pss_one (ps_ret (pe_lc (own := [("number", 7)]) (g := gName 7) rfl nd (pi_range1 (by rfl) T.range (pa_cons (pe_fld (pv 0) rfl) pa_nil)) (blkOk_by (N := nFM) (sc := defScope dClosFreeMiddle) (own := [("number", 7)]) (by decide +kernel))
        (fun _ _ _ _ _ => pg_name (i := 7) nd rfl (Or.inl rfl)) (fun _ _ _ _ _ => pts_one (PW.pt (pw_and (pt_cmpR (r := rIn K true) op_notIn_seq (pv 7) (pv 5) (by rfl)) (pw_and1 (pt_cmpR (r := rIn K true) op_notIn_seq (pv 7) (pv 6) (by rfl)))))) (fun _ _ _ _ _ => pv 7))))), ?_⟩
    refine ⟨_, rfl, o, dx, _, rfl, st.same _ _ ho, kF_ends, _, rfl, _, rfl, G, o, D, q, es, one, other, rfl, st, fun t nt => ?_⟩
    have q1 := same_upd (o := .tup [nv (one / q.g), nv (other / q.g)]) nt
    have ht : upd H t (.tup [nv (one / q.g), nv (other / q.g)]) t = some (.tup [nv (one / q.g), nv (other / q.g)]) := upd_same
    refine ⟨t, _, rfl, SqT.of ht, rfl, _, _, rfl, _, _, rfl, rfl, ?_⟩
    generalize upd H t (.tup [nv (one / q.g), nv (other / q.g)]) = H1 at *
    have st1 := st.keep q1
    refine ⟨_, rfl, o, dx, _, rfl, st1.same _ _ ho, kF_ui, _, rfl, G, o, D, q, es, one / q.g, rfl, st1, fun pm H2 us s2 hus pus => ?_⟩
    refine ⟨_, rfl, o, dx, _, rfl, (st1.keep s2).same _ _ ho, kF_uo, _, rfl, G, o, D, q, es, other / q.g, rfl, st1.keep s2, fun pt H3 ws s3 hws pws => ?_⟩
    refine ⟨show 2 ≤ sizeLine by decide, fun t2 nt2 => ?_⟩
    have q4 := same_upd (o := .tup [V.ref pm, V.ref pt]) nt2
    have ht2 : upd H3 t2 (.tup [V.ref pm, V.ref pt]) t2 = some (.tup [V.ref pm, V.ref pt]) := upd_same
    refine ⟨t2, _, rfl, SqT.of ht2, rfl, _, _, rfl, _, _, rfl, rfl, ?_⟩
    generalize upd H3 t2 (.tup [V.ref pm, V.ref pt]) = H4 at *
    have st4 := (((st.keep q1).keep s2).keep s3).keep q4
    have hus4 := q4 _ _ (s3 _ _ hus)
    have hws4 := q4 _ _ hws
    have m3 := st.ok.m3
    refine ⟨_, rfl, o, _, dx, _, _, rfl, st4.same _ _ ho, T.clos, T.kMid, kF_mid, _, rfl, by omega, by omega, fun Dl nDl => ?_⟩
    refine lc_it walk_range (LcP H4 Dl fun i => ((List.range i).filter fun c => decide (c ∉ us) && decide (c ∉ ws)).map nv) (lc_start nDl rfl) (fun _ _ _ _ => trivial) (fun i x H5 H6 hi p y => ?_) (fun H5 p => ?_)
    · obtain ⟨rfl, hx⟩ := y
      have hx : x = nv i := by rw [hx]; show V.int _ = V.int _; rw [Int.zero_add]
      subst hx
      have hi : i < q.mid := by omega
      have e1 : ((List.range (i + 1)).filter fun c => decide (c ∉ us) && decide (c ∉ ws)).map nv = ((List.range i).filter fun c => decide (c ∉ us) && decide (c ∉ ws)).map nv ++ (if (decide (i ∉ us) && decide (i ∉ ws)) = true then [nv i] else []) := by
        rw [List.range_succ, List.filter_append, List.map_append]
        congr 1
        rw [List.filter_cons, List.filter_nil]
        cases (decide (i ∉ us) && decide (i ∉ ws)) <;> rfl
      refine ⟨rfl, _, rfl, _, rfl, pm, _, rfl, .inl (SqL.of (p.1 _ _ hus4)), rfl, flat_nv us, _, rfl, ?_⟩
      show if (!inV (nv i) (us.map nv)) = true then _ else _
      rw [inV_nv]
      by_cases c1 : i ∈ us
      · refine iteNS c1 ?_
        refine iteF ?_
        rw [if_neg (by simp [c1]), List.append_nil] at e1
        exact lc_skip p e1
      · refine iteNT c1 ?_
        refine ⟨_, rfl, _, rfl, pt, _, rfl, .inl (SqL.of (p.1 _ _ hws4)), rfl, flat_nv ws, _, rfl, ?_⟩
        show if (!inV (nv i) (ws.map nv)) = true then _ else _
        rw [inV_nv]
        by_cases c2 : i ∈ ws
        · refine iteNS c2 ?_
          rw [if_neg (by simp [c2]), List.append_nil] at e1
          exact lc_skip p e1
        · refine iteNT c2 ?_
          rw [if_pos (by simp [c1, c2])] at e1
          refine ⟨_, rfl, lc_put nDl p (Same.refl _) e1 ?_⟩
          rw [List.length_map]
          have h1 := List.length_filter_le (fun c => decide (c ∉ us) && decide (c ∉ ws)) (List.range i)
          rw [List.length_range] at h1
          omega
    · refine k Dl _ ((List.range q.mid).filter fun c => decide (c ∉ us) && decide (c ∉ ws)) ((((q1.trans s2).trans s3).trans q4).trans p.1) ?_ ?_
      · refine p.2.trans ?_
        have en : ((q.mid : Nat) : Int).toNat = q.mid := by omega
        rw [en]
      · intro c
        rw [List.mem_filter, List.mem_range, Bool.and_eq_true, decide_eq_true_iff, decide_eq_true_iff, perm_notin pus, perm_notin pws]
/-! ### put_by, end -/
def spPutBy (K : PySem.W.Frag) : Sp := fun vs H Q _ => ∃ (G : Hp) (o D : Addr) (q : Par) (es : List Ent) (one other num : Nat), vs = [.ref o, nv one, nv other, nv num] ∧ ClosSt K G H o D q es ∧ one < q.g * q.s ∧ other < q.g * q.s ∧ eFind es one = none ∧ other ∉ es.map (·.2.1) ∧
  (num < q.mid ∧ (∀ e ∈ es, e.1 / q.g = one / q.g → e.2.2 ≠ num) ∧ ∀ e ∈ es, e.2.1 / q.g = other / q.g → e.2.2 ≠ num) ∧ es.length < 50 ∧ ∀ v H', ClosSt K G H' o D q (es ++ [(one, other, num)]) → Q v H'
theorem sc_putBy : FnScope ["self", "one", "other", "number"] ["self", "one", "other", "number"] (defScope dClosPutBy) := ⟨rfl, rfl, rfl, by decide +kernel, rfl, by decide +kernel, by decide +kernel⟩
theorem ClosSt.add {G H : Hp} {o D t : Addr} {q : Par} {es : List Ent} {one other num : Nat} (c : ClosSt K G H o D q es) (nt : H t = none) (hf : eFind es one = none) (hl : es.length < 50) :
    ∃ kvs, upd H t (.tup [nv other, nv num]) D = some (.dK kvs) ∧ kvs.length < sizeLine ∧ ClosSt K G (upd (upd H t (.tup [nv other, nv num])) D (.dK (putK kvs (Sum.inl (one : Int)) (.ref t)))) o D q (es ++ [(one, other, num)]) := by
  obtain ⟨kvs, hD, hE⟩ := c.dict
  have sT := same_upd (o := .tup [nv other, nv num]) nt
  have hD1 := sT _ _ hD
  have vn := (hE.find one).1 hf
  refine ⟨kvs, hD1, small (by rw [hE.length]; omega), Same.up (c.same.trans sT) c.fresh, c.fresh, c.st, ⟨_, upd_same, ?_⟩, ?_, ?_, c.ok⟩
  · rw [putK_new _ vn]
    refine Ents.lock (u := .dK (kvs ++ [(Sum.inl (one : Int), V.ref t)])) (H := upd H t (.tup [nv other, nv num])) (D := D) (ks := kvs) ?_ hD1
    exact paired_snoc (hE.same sT) ⟨rfl, t, rfl, upd_same⟩
  · rw [List.map_append]
    refine List.nodup_append.mpr ⟨c.nd, by simp, fun a ha b hb z => ?_⟩
    have : b = one := by simpa using hb
    rw [this] at z
    exact (eFind_none.mp hf) (z ▸ ha)
  · rw [List.length_append]
    show es.length + 1 ≤ 50
    omega
theorem m_putBy (T : Tx K mg) (MC : MDef P w K mg base (He.ga K "Clos") "check" 2 ["self", "one", "other"] (spClosCheck K)) (MF : MDef P w K mg base (He.ga K "Clos") "free_middle" 2 ["self", "one", "other"] (spFreeMid K)) :
    MDef P w K mg base (He.ga K "Clos") "put_by" 3 ["self", "one", "other", "number"] (spPutBy K) := by
  refine mdef (st := dClosPutBy) (q := "Clos.put_by") T (by unfold fn defs1 defs2; simp) (by unfold faC; simp) sc_putBy (fun vs H Q E h => ?_) (fun _ _ _ _ _ _ us hl => match us, hl with | [_, _, _, _], _ => rfl) (fun f cdv A outer s H vs Q E ec hr h => ?_)
  · obtain ⟨G, o, D, q, es, one, other, num, rfl, _⟩ := h
    rfl
  · obtain ⟨G, o, D, q, es, one, other, num, rfl, st, h1, h2, hf, hno, hfr, hl, k⟩ := h
    obtain ⟨dx, ho⟩ := st.st
    refine ⟨_, pss_cons (ps_expr (pe_m MC T.clos hr (pv 0) (pa_cons (pv 1) (pa_cons (pv 2) pa_nil))))
      (pss_cons (ps_if (pt_cmpR op_notIn_seq (pv 3) (pe_m MF T.clos hr (pv 0) (pa_cons (pv 1) (pa_cons (pv 2) pa_nil))) (by rfl)) (pss_one ps_never) pss_nil)
      (pss_one (ps_dput (u1 hr) (pe_fld (pv 0) rfl) (pv 1) (pe_tup (pa_cons (pv 2) (pa_cons (pv 3) pa_nil))) rfl))), ?_⟩
    refine ⟨_, rfl, o, dx, _, rfl, st.same _ _ ho, kF_check, _, rfl, _, rfl, G, o, D, q, es, one, other, rfl, st, h1, h2, hf, hno, fun H1 s1 => ?_⟩
    have st1 := st.keep s1
    refine ⟨_, rfl, _, rfl, o, dx, _, rfl, st1.same _ _ ho, kF_fm, _, rfl, _, rfl, G, o, D, q, es, one, other, rfl, st1, fun p H2 fr s2 hfrl F => ?_⟩
    have st2 := st1.keep s2
    refine ⟨p, _, rfl, .inl (SqL.of hfrl), rfl, flat_nv fr, _, rfl, ?_⟩
    show if (!inV (nv num) (fr.map nv)) = true then _ else _
    rw [inV_nv]
    refine iteNS ((F num).mpr hfr) ?_
    refine ⟨_, rfl, _, rfl, show 2 ≤ sizeLine by decide, fun t nt => ?_⟩
    obtain ⟨kvs, e1, e2, st3⟩ := st2.add (num := num) (other := other) nt hf hl
    have ho3 := (same_upd (o := .tup [nv other, nv num]) nt) _ _ (st2.same _ _ ho)
    refine ⟨_, rfl, o, _, dx, _, _, rfl, ho3, T.clos, T.kCalls, kF_calls, _, rfl, D, _, rfl, DPut.k (k := Sum.inl (one : Int)) e1 e2, ?_⟩
    exact k _ _ st3
def spEnd (K : PySem.W.Frag) : Sp := fun vs H Q _ => ∃ (G : Hp) (o D : Addr) (q : Par) (es : List Ent) (one : Nat), vs = [.ref o, nv one] ∧ ClosSt K G H o D q es ∧ eFind es one ≠ none ∧ ∀ v H', ClosSt K G H' o D q (es.filter fun e => !(e.1 == one)) → Q v H'
theorem sc_end : FnScope ["self", "one"] ["self", "one"] (defScope dClosEnd) := ⟨rfl, rfl, rfl, by decide +kernel, rfl, by decide +kernel, by decide +kernel⟩
theorem Ents.drop {H : Hp} {one : Nat} : ∀ {kvs : List (Key × V)} {es : List Ent}, Ents H kvs es → Ents H (dropK kvs (Sum.inl (one : Int))) (es.filter fun e => !(e.1 == one))
  | [], [], _ => .nil
  | kv :: kvs, e :: es, .cons h t => by
    have ih := Ents.drop (one := one) t
    unfold dropK at ih ⊢
    rw [List.filter_cons, List.filter_cons]
    by_cases c : e.1 = one
    · have h1 : kv.1 = Sum.inl (one : Int) := by rw [h.1, c]
      rw [if_neg (by simp [h1]), if_neg (by simp [c])]
      exact ih
    · have h1 : ¬ kv.1 = Sum.inl (one : Int) := by
        rw [h.1]
        intro z
        have z2 := Sum.inl.inj z
        exact c (by omega)
      rw [if_pos (by simp [h1]), if_pos (by simp [c])]
      exact .cons h ih
theorem m_end (T : Tx K mg) : MDef P w K mg base (He.ga K "Clos") "end" 1 ["self", "one"] (spEnd K) := by
  refine mdef (st := dClosEnd) (q := "Clos.end") T (by unfold fn defs1 defs2; simp) (by unfold faC; simp) sc_end (fun vs H Q E h => ?_) (fun _ _ _ _ _ _ us hl => match us, hl with | [_, _], _ => rfl) (fun f cdv A outer s H vs Q E ec hr h => ?_)
  · obtain ⟨G, o, D, q, es, one, rfl, _⟩ := h
    rfl
  · obtain ⟨G, o, D, q, es, one, rfl, st, hf, k⟩ := h
    obtain ⟨dx, ho⟩ := st.st
    obtain ⟨kvs, hD, hE⟩ := st.dict
    refine ⟨_, pss_cons (ps_if (pt_cmp (pc_dnotin (u1 hr) (pv 1) (pe_fld (pv 0) rfl))) (pss_one ps_never) pss_nil) (pss_one (ps_ddel (pe_fld (pv 0) rfl) (pv 1))), ?_⟩
    have vs1 : (valV kvs (Sum.inl (one : Int))).isSome = true := by
      rw [hE.isSome one]
      cases e : eFind es one with
      | none => exact absurd e hf
      | some _ => rfl
    refine ⟨_, rfl, _, rfl, o, _, dx, _, _, rfl, st.same _ _ ho, T.clos, T.kCalls, kF_calls, D, _, rfl, DGet.k (k := Sum.inl (one : Int)) hD, _, rfl, ?_⟩
    rw [vs1]
    refine iteF ?_
    refine ⟨_, rfl, o, _, dx, _, _, rfl, st.same _ _ ho, T.clos, T.kCalls, kF_calls, _, rfl, D, kvs, Sum.inl (one : Int), rfl, hD, rfl, vs1, ?_⟩
    refine k _ _ ⟨Same.up st.same st.fresh, st.fresh, st.st, ⟨_, upd_same, Ents.lock hE.drop hD⟩, ?_, ?_, st.ok⟩
    · exact (List.filter_sublist.map _).nodup st.nd
    · exact Nat.le_trans (List.length_filter_le _ _) st.len
end
end Ck
/-! ## text L61F -/
set_option Elab.async false
set_option linter.all false
set_option maxRecDepth 100000
set_option maxHeartbeats 4000000
namespace Ck
open PySem PySem.Spec PyProof.Rows L2
def kL (q : Par) (k : Nat) : Nat := k / q.g
def kR (q : Par) (es : List Ent) (k : Nat) : Nat := ((eFind es k).map fun bc => bc.1 / q.g).getD 0
def kC (es : List Ent) (k : Nat) : Option Nat := (eFind es k).map (·.2)
def kAsk (q : Par) (es : List Ent) (side sw num k : Nat) : Prop := vS (kL q) (kR q es) side k = sw ∧ kC es k = some num
section
variable {P : Program} {w : World} {K : PySem.W.Frag} {mg : Str → Option Value} {base : Heap}
def spAt (K : PySem.W.Frag) : Sp := fun vs H Q _ => ∃ (G : Hp) (o D : Addr) (q : Par) (es : List Ent) (side sw num : Nat), vs = [.ref o, nv side, nv sw, nv num] ∧ side < 2 ∧ ClosSt K G H o D q es ∧
  ∀ (r : Option Nat) (H' : Hp), Same H H' → (∀ k, r = some k → kAsk q es side sw num k) → (r = none → ∀ k, ¬ kAsk q es side sw num k) → Q (ov r) H'
theorem sc_at : FnScope ["self", "side", "switch", "number", "gate"] ["self", "side", "switch", "number"] (defScope dClosAt) := ⟨rfl, rfl, rfl, by decide +kernel, rfl, by decide +kernel, by decide +kernel⟩
theorem m_at (T : Tx K mg) (ME : MDef P w K mg base (He.ga K "Clos") "ends" 1 ["self", "one", "other"] (spEnds K)) : MDef P w K mg base (He.ga K "Clos") "at" 2 ["self", "side", "switch", "number"] (spAt K) := by
  refine mdef (st := dClosAt) (q := "Clos.at") T (by unfold fn defs1 defs2; simp) (by unfold faC; simp) sc_at (fun vs H Q E h => ?_) (fun _ _ _ _ _ _ us hl => match us, hl with | [_, _, _, _], _ => rfl) (fun f cdv A outer s H vs Q E ec hr h => ?_)
  · obtain ⟨G, o, D, q, es, side, sw, num, rfl, _⟩ := h
    rfl
  · obtain ⟨G, o, D, q, es, side, sw, num, rfl, hs, st, k⟩ := h
    obtain ⟨dx, ho⟩ := st.st
    obtain ⟨kvs, hD, hE⟩ := st.dict
    have nd := sc_at.nd
    refine ⟨_, pss_cons (ps_for PassesOwn.never rfl (pi_list (pe_callB (call_sortedDI rfl) (by rfl) T.sorted (by rfl) (pa_cons (pe_fld (pv 0) rfl) pa_nil))) (pg_name (i := 4) nd rfl (Or.inl rfl))
        (pss_one (ps_if (PW.pt (pw_and (pt_cmpR op_eq (pe_ix ix_seq (pe_m ME T.clos hr (pv 0) (pa_cons (pv 4) (pa_cons (pe_ix ix_seq (pe_dget (u1 hr) (pe_fld (pv 0) rfl) (pv 4) (fun _ _ => rfl)) pe_int (fun _ _ => rfl)) pa_nil))) (pv 1) (fun _ _ => rfl)) (pv 2) (nomark _))
            (pw_and1 (pt_cmpR op_eq (pe_ix ix_seq (pe_dget (u1 hr) (pe_fld (pv 0) rfl) (pv 4) (fun _ _ => rfl)) pe_int (fun _ _ => rfl)) (pv 3) (nomark _))))) (pss_one (ps_ret (pv 4))) pss_nil)))
      (pss_one (ps_ret pe_non)), ?_⟩
    have ho1 := st.same _ _ ho
    refine ⟨_, rfl, o, _, dx, _, _, rfl, ho1, T.clos, T.kCalls, kF_calls, D, kvs, _, rfl, .inl hD, hE.keys, by rw [List.length_map]; have := st.len; omega, fun ys p perm srt np => ?_⟩
    have perm2 : ys.Perm ((es.map (·.1)).map fun (n : Nat) => (n : Int)) := by
      rw [List.map_map]
      exact perm
    obtain ⟨us, e1, pus, _⟩ := sorted_nat perm2
    have q1 := same_upd (o := .lst (us.map nv)) np
    have hp : upd H p (.lst (us.map nv)) p = some (.lst (us.map nv)) := upd_same
    refine ⟨p, rfl, ⟨us.map nv, by rw [e1]; exact SqL.of hp⟩, ?_⟩
    rw [e1]
    generalize upd H p (.lst (us.map nv)) = H1 at *
    refine for_it walk_list (fun i σ H2 => (∃ y, σ = [some (.ref o), some (nv side), some (nv sw), some (nv num), y]) ∧ Same H1 H2 ∧ ∀ j u, j < i → us[j]? = some u → ¬ kAsk q es side sw num u)
      ⟨⟨_, rfl⟩, Same.refl _, fun j u hj => by omega⟩ (fun i σ H2 _ p => SqL.of (p.2.1 _ _ hp)) (fun i x σ H2 H3 hi p y => ?_) (fun σ H2 p => ?_)
    · obtain ⟨⟨y0, rfl⟩, s2, hno⟩ := p
      obtain ⟨rfl, hx⟩ := y
      obtain ⟨hi', rfl⟩ := nv_get' hx
      have hmem : us[i] ∈ es.map (·.1) := pus.mem_iff.mp (List.getElem_mem hi')
      generalize hu : us[i] = u at *
      have fu : eFind es u ≠ none := fun z => eFind_none.mp z hmem
      obtain ⟨⟨b, c⟩, hbc⟩ : ∃ bc, eFind es u = some bc := by
        cases e : eFind es u with
        | none => exact absurd e fu
        | some bc => exact ⟨bc, rfl⟩
      obtain ⟨t, ht, htt⟩ := (hE.find u).2 b c hbc
      have s3 := q1.trans s2
      have hD3 := s3 _ _ hD
      have htt3 := s3 _ _ htt
      have ho3 := s3 _ _ ho1
      have dg : DGet H3 D (nv u) (some (.ref t)) := by
        have := DGet.k (k := Sum.inl (u : Int)) hD3
        rw [ht] at this
        exact this
      refine ⟨_, rfl, o, dx, _, rfl, ho3, kF_ends, _, rfl, _, rfl, o, _, dx, _, _, rfl, ho3, T.clos, T.kCalls, kF_calls, _, rfl, D, _, rfl, dg, .inr (.inl ⟨t, _, _, nv b, rfl, rfl, SqT.of htt3, rfl, G, o, D, q, es, u, b, rfl, st.keep s3, fun t2 nt2 => ?_⟩)⟩
      have qT := same_upd (o := .tup [nv (u / q.g), nv (b / q.g)]) nt2
      have ht2 : upd H3 t2 (.tup [nv (u / q.g), nv (b / q.g)]) t2 = some (.tup [nv (u / q.g), nv (b / q.g)]) := upd_same
      generalize upd H3 t2 (.tup [nv (u / q.g), nv (b / q.g)]) = H4 at *
      have hR : kR q es u = b / q.g := by unfold kR; rw [hbc]; rfl
      have hC : kC es u = some c := by unfold kC; rw [hbc]; rfl
      have ea : atI [nv (u / q.g), nv (b / q.g)] (side : Int) = some (nv (vS (kL q) (kR q es) side u)) := by
        have : side = 0 ∨ side = 1 := by omega
        rcases this with rfl | rfl
        · rfl
        · rw [show vS (kL q) (kR q es) 1 u = b / q.g from hR]; rfl
      have next : ¬ kAsk q es side sw num u → ∀ j u', j < i + 1 → us[j]? = some u' → ¬ kAsk q es side sw num u' := by
        intro n j u' hj e
        by_cases ej : j = i
        · subst ej
          rw [List.getElem?_eq_getElem hi', hu] at e
          exact Option.some.inj e ▸ n
        · exact hno j u' (by omega) e
      refine ⟨_, rfl, .inr (.inl ⟨t2, _, _, _, rfl, rfl, SqT.of ht2, ea, _, rfl, rfl, _, rfl, ?_⟩)⟩
      by_cases c1 : vS (kL q) (kR q es) side u = sw
      · refine iteD (by rw [c1]) ?_
        have dg4 : DGet H4 D (nv u) (some (.ref t)) := by
          have := DGet.k (k := Sum.inl (u : Int)) (qT _ _ hD3)
          rw [ht] at this
          exact this
        refine ⟨_, rfl, o, _, dx, _, _, rfl, qT _ _ ho3, T.clos, T.kCalls, kF_calls, _, rfl, D, _, rfl, dg4, .inr (.inl ⟨t, _, _, nv c, rfl, rfl, SqT.of (qT _ _ htt3), rfl, _, rfl, rfl, _, rfl, ?_⟩)⟩
        by_cases c2 : c = num
        · refine iteD (by rw [c2]) ?_
          refine ⟨_, rfl, ?_⟩
          exact k (some u) _ (s3.trans qT) (fun k' e => by obtain rfl := Option.some.inj e; exact ⟨c1, by rw [hC, c2]⟩) (fun e => by cases e)
        · refine iteDF (fun z => c2 (by have z1 := V.int.inj z; omega)) ?_
          exact ⟨⟨_, rfl⟩, s2.trans qT, next fun z => c2 (by have := z.2; rw [hC] at this; exact Option.some.inj this)⟩
      · refine iteDF (fun z => c1 (by have z1 := V.int.inj z; omega)) ?_
        exact ⟨⟨_, rfl⟩, s2.trans qT, next fun z => c1 z.1⟩
    · obtain ⟨⟨y0, rfl⟩, s2, hno⟩ := p
      refine k none _ (q1.trans s2) (fun k' e => by cases e) (fun _ u ha => ?_)
      have hm : u ∈ us := by
        refine pus.mem_iff.mpr (Classical.byContradiction fun z => ?_)
        have := eFind_none.mpr z
        have h2 := ha.2
        unfold kC at h2
        rw [this] at h2
        cases h2
      obtain ⟨j, hj, e⟩ := List.mem_iff_getElem.mp hm
      exact hno j u (by rw [List.length_map]; exact hj) (by rw [List.getElem?_eq_getElem hj, e]) ha
end
end Ck
/-! ## text L61G -/
set_option Elab.async false
set_option linter.all false
set_option maxRecDepth 100000
set_option maxHeartbeats 4000000
namespace Ck
open PySem PySem.Spec PyProof.Rows L2
/-! ### the entries with two colours exchanged -/
def flipE (es : List Ent) (a b : Nat) (F : List Nat) : List Ent := es.map fun e => if e.1 ∈ F then (e.1, e.2.1, flp a b e.2.2) else e
theorem flipE_nil (es : List Ent) (a b : Nat) : flipE es a b [] = es := by
  unfold flipE
  exact (List.map_congr_left fun e _ => (by rw [if_neg List.not_mem_nil])).trans (List.map_id' es)
theorem flipE_key (es : List Ent) (a b : Nat) (F : List Nat) : (flipE es a b F).map (·.1) = es.map (·.1) := by
  unfold flipE
  rw [List.map_map]
  refine List.map_congr_left fun e _ => ?_
  show (if e.1 ∈ F then (e.1, e.2.1, flp a b e.2.2) else e).1 = e.1
  split <;> rfl
theorem flipE_out (es : List Ent) (a b : Nat) (F : List Nat) : (flipE es a b F).map (·.2.1) = es.map (·.2.1) := by
  unfold flipE
  rw [List.map_map]
  refine List.map_congr_left fun e _ => ?_
  show (if e.1 ∈ F then (e.1, e.2.1, flp a b e.2.2) else e).2.1 = e.2.1
  split <;> rfl
theorem flipE_io (es : List Ent) (a b : Nat) (F : List Nat) : (flipE es a b F).map (fun e => (e.1, e.2.1)) = es.map (fun e => (e.1, e.2.1)) := by
  unfold flipE
  rw [List.map_map]
  refine List.map_congr_left fun e _ => ?_
  show ((if e.1 ∈ F then (e.1, e.2.1, flp a b e.2.2) else e).1, (if e.1 ∈ F then (e.1, e.2.1, flp a b e.2.2) else e).2.1) = (e.1, e.2.1)
  split <;> rfl
theorem flipE_find (es : List Ent) (a b : Nat) (F : List Nat) (k : Nat) : eFind (flipE es a b F) k = (eFind es k).map fun bc => (bc.1, if k ∈ F then flp a b bc.2 else bc.2) := by
  induction es with
  | nil => rfl
  | cons e r ih =>
    unfold eFind flipE at ih ⊢
    rw [List.map_cons, List.find?_cons, List.find?_cons]
    have h1 : (if e.1 ∈ F then (e.1, e.2.1, flp a b e.2.2) else e).1 = e.1 := by split <;> rfl
    rw [h1]
    by_cases c : e.1 = k
    · have cb : (e.1 == k) = true := beq_iff_eq.mpr c
      rw [cb]
      subst c
      show some (if e.1 ∈ F then (e.1, e.2.1, flp a b e.2.2) else e).2 = some (e.2.1, if e.1 ∈ F then flp a b e.2.2 else e.2.2)
      split <;> rfl
    · have cb : (e.1 == k) = false := beq_eq_false_iff_ne.mpr c
      rw [cb]
      exact ih
theorem flipE_R (q : Par) (es : List Ent) (a b : Nat) (F : List Nat) : kR q (flipE es a b F) = kR q es := by
  funext k
  unfold kR
  rw [flipE_find]
  cases eFind es k <;> rfl
theorem flipE_C (es : List Ent) (a b : Nat) (F : List Nat) : kC (flipE es a b F) = flipC (kC es) a b F := by
  funext k
  show ((eFind (flipE es a b F) k).map fun x => x.2) = if k ∈ F then ((eFind es k).map fun x => x.2).map (flp a b) else (eFind es k).map fun x => x.2
  rw [flipE_find]
  generalize eFind es k = y
  by_cases m : k ∈ F
  · rw [if_pos m]
    cases y with
    | none => rfl
    | some bc => simp [m]
  · rw [if_neg m]
    cases y with
    | none => rfl
    | some bc => simp [m]
theorem flipE_snoc {es : List Ent} {a b f goal num : Nat} {F : List Nat} (nd : (es.map (·.1)).Nodup) (hf : f ∉ F) (hm : eFind es f = some (goal, num)) :
    flipE es a b (F ++ [f]) = (flipE es a b F).map fun e => if e.1 = f then (f, goal, flp a b num) else e := by
  unfold flipE
  rw [List.map_map]
  refine List.map_congr_left fun e he => ?_
  show _ = (if (if e.1 ∈ F then (e.1, e.2.1, flp a b e.2.2) else e).1 = f then (f, goal, flp a b num) else (if e.1 ∈ F then (e.1, e.2.1, flp a b e.2.2) else e))
  have h1 : (if e.1 ∈ F then (e.1, e.2.1, flp a b e.2.2) else e).1 = e.1 := by split <;> rfl
  rw [h1]
  by_cases c : e.1 = f
  · rw [if_pos c, if_pos (List.mem_append_right _ (by rw [c]; exact List.mem_singleton.mpr rfl))]
    obtain ⟨k, b', c'⟩ := e
    have c : k = f := c
    subst c
    have := eFind_of nd he
    rw [hm] at this
    have := Option.some.inj this
    have e1 : goal = b' := congrArg Prod.fst this
    have e2 : num = c' := congrArg Prod.snd this
    rw [e1, e2]
  · rw [if_neg c]
    by_cases m : e.1 ∈ F
    · rw [if_pos m, if_pos (List.mem_append_left _ m)]
    · rw [if_neg m, if_neg fun z => by
        rcases List.mem_append.mp z with z | z
        · exact m z
        · exact c (List.mem_singleton.mp z)]
theorem Ents.repl {H : Hp} {D f goal num : Nat} {t : Addr} : ∀ {kvs : List (Key × V)} {es : List Ent}, Ents H kvs es → H t = some (.tup [nv goal, nv num]) →
    Ents H (kvs.map fun kv => if kv.1 = Sum.inl (f : Int) then (kv.1, V.ref t) else kv) (es.map fun e => if e.1 = f then (f, goal, num) else e)
  | [], [], _, _ => .nil
  | kv :: kvs, e :: es, .cons h r, ht => by
    refine .cons ?_ (Ents.repl (D := D) r ht)
    by_cases c : e.1 = f
    · have h1 : kv.1 = Sum.inl (f : Int) := by rw [h.1, c]
      show EntAt H (if kv.1 = Sum.inl (f : Int) then (kv.1, V.ref t) else kv) (if e.1 = f then (f, goal, num) else e)
      rw [if_pos h1, if_pos c]
      exact ⟨h1, t, rfl, ht⟩
    · have h1 : ¬ kv.1 = Sum.inl (f : Int) := by
        rw [h.1]
        intro z
        have z2 := Sum.inl.inj z
        exact c (by omega)
      show EntAt H (if kv.1 = Sum.inl (f : Int) then (kv.1, V.ref t) else kv) (if e.1 = f then (f, goal, num) else e)
      rw [if_neg h1, if_neg c]
      exact h
theorem putK_here {kvs : List (Key × V)} {k : Key} {v x : V} (h : valV kvs k = some x) : putK kvs k v = kvs.map fun kv => if kv.1 = k then (kv.1, v) else kv := by
  unfold putK
  rw [if_pos (by rw [valV_any, h]; rfl)]
section
variable {P : Program} {w : World} {K : PySem.W.Frag} {mg : Str → Option Value} {base : Heap}
theorem ClosSt.repl {G H : Hp} {o D t : Addr} {q : Par} {es : List Ent} {f goal num : Nat} {bc : Nat × Nat} (c : ClosSt K G H o D q es) (nt : H t = none) (hf : eFind es f = some bc) :
    ∃ kvs, upd H t (.tup [nv goal, nv num]) D = some (.dK kvs) ∧ kvs.length < sizeLine ∧ ClosSt K G (upd (upd H t (.tup [nv goal, nv num])) D (.dK (putK kvs (Sum.inl (f : Int)) (.ref t)))) o D q (es.map fun e => if e.1 = f then (f, goal, num) else e) := by
  obtain ⟨kvs, hD, hE⟩ := c.dict
  have sT := same_upd (o := .tup [nv goal, nv num]) nt
  have hD1 := sT _ _ hD
  obtain ⟨x, hx, _⟩ := (hE.find f).2 bc.1 bc.2 hf
  refine ⟨kvs, hD1, small (by rw [hE.length]; have := c.len; omega), Same.up (c.same.trans sT) c.fresh, c.fresh, c.st, ⟨_, upd_same, ?_⟩, ?_, ?_, c.ok⟩
  · rw [putK_here hx]
    exact Ents.lock (Ents.repl (D := D) (hE.same sT) upd_same) hD1
  · rw [List.map_map]
    have : (es.map ((·.1) ∘ fun e => if e.1 = f then (f, goal, num) else e)) = es.map (·.1) := by
      refine List.map_congr_left fun e _ => ?_
      show (if e.1 = f then (f, goal, num) else e).1 = e.1
      split
      · rename_i c; exact c.symm
      · rfl
    rw [this]
    exact c.nd
  · rw [List.length_map]
    exact c.len
def spEx (K : PySem.W.Frag) : Sp := fun vs H Q _ => ∃ (G : Hp) (o D : Addr) (q : Par) (es : List Ent) (start a b hv : Nat), vs = [.ref o, nv start, nv a, nv b] ∧ ClosSt K G H o D q es ∧ a ≠ b ∧ Snd (kL q) (kR q es) (kC es) ∧
  (∀ e, kL q e = hv → kC es e ≠ some a) ∧ (∀ e, kR q es e = start → kC es e ≠ some b) ∧
  ∀ (p : Addr) (H' : Hp) (F : List Nat), ClosSt K G H' o D q (flipE es a b F) → Snd (kL q) (kR q es) (flipC (kC es) a b F) → (∀ e, kL q e = hv → flipC (kC es) a b F e ≠ some a) → (∀ e, kR q es e = start → flipC (kC es) a b F e ≠ some a) → Q (.ref p) H'
abbrev nEX : List Str := ["self", "start", "one", "other", "side", "switch", "number", "found", "gate", "goal"]
theorem sc_ex : FnScope nEX ["self", "start", "one", "other"] (defScope dClosExchange) := ⟨rfl, rfl, rfl, by decide +kernel, rfl, by decide +kernel, by decide +kernel⟩
theorem m_ex (T : Tx K mg) (ME : MDef P w K mg base (He.ga K "Clos") "ends" 1 ["self", "one", "other"] (spEnds K)) (MA : MDef P w K mg base (He.ga K "Clos") "at" 2 ["self", "side", "switch", "number"] (spAt K)) :
    MDef P w K mg base (He.ga K "Clos") "exchange" 3 ["self", "start", "one", "other"] (spEx K) := by
  refine mdef (st := dClosExchange) (q := "Clos.exchange") T (by unfold fn defs1 defs2; simp) (by unfold faC; simp) sc_ex (fun vs H Q E h => ?_) (fun _ _ _ _ _ _ us hl => match us, hl with | [_, _, _, _], _ => rfl) (fun f cdv A outer s H vs Q E ec hr h => ?_)
  · obtain ⟨G, o, D, q, es, start, a, b, hv, rfl, _⟩ := h
    rfl
  · obtain ⟨G, o, D, q, es, start, a, b, hv, rfl, st, hab, S, na, nb, k⟩ := h
    obtain ⟨dx, ho⟩ := id st.st
    have nd := sc_ex.nd
    refine ⟨_, pss_cons (ps_asg (pe_tup (pa_cons pe_int (pa_cons (pv 1) (pa_cons (pv 2) (pa_cons (pe_lst pa_nil) pa_nil))))) (pg_tup rfl (pgs_cons (pg_name (i := 4) nd rfl (Or.inl rfl)) (pgs_cons (pg_name (i := 5) nd rfl (Or.inl rfl)) (pgs_cons (pg_name (i := 6) nd rfl (Or.inl rfl)) (pgs_cons (pg_name (i := 7) nd rfl (Or.inl rfl)) pgs_nil))))))
      (pss_cons (ps_set (i := 8) nd rfl (.inl rfl) (pe_m MA T.clos hr (pv 0) (pa_cons (pv 4) (pa_cons (pv 5) (pa_cons (pv 6) pa_nil)))))
      (pss_cons (ps_while PassesOwn.never (pt_cmpR op_notN (pv 8) pe_non (nomark _))
          (pss_cons (ps_expr (pe_bm PySem.F.plainAttrs_list PySem.F.slot_list_append PySem.F.type_list_append mt_append (pv 7) (pa_cons (pv 8) pa_nil)))
          (pss_cons (ps_set (i := 5) nd rfl (.inl rfl) (pe_ix ix_seq (pe_m ME T.clos (hr.mono (by decide)) (pv 0) (pa_cons (pv 8) (pa_cons (pe_ix ix_seq (pe_dget (u1 hr) (pe_fld (pv 0) rfl) (pv 8) (fun _ _ => rfl)) pe_int (fun _ _ => rfl)) pa_nil))) (pe_op op_subE pe_int (pv 4)) (fun _ _ => rfl)))
          (pss_cons (ps_set (i := 4) nd rfl (.inl rfl) (pe_op op_subE pe_int (pv 4)))
          (pss_cons (ps_set (i := 6) nd rfl (.inl rfl) (pe_ifExp (pt_cmpR op_eq (pv 6) (pv 2) (nomark _)) (pv 3) (pv 2)))
          (pss_one (ps_set (i := 8) nd rfl (.inl rfl) (pe_m MA T.clos hr (pv 0) (pa_cons (pv 4) (pa_cons (pv 5) (pa_cons (pv 6) pa_nil)))))))))))
      (pss_cons (ps_for PassesOwn.never rfl (pi_list (pv 7)) (pg_name (i := 8) nd rfl (Or.inl rfl))
          (pss_cons (ps_asg (pe_dget (u1 hr) (pe_fld (pv 0) rfl) (pv 8) (fun _ _ => rfl)) (pg_tup rfl (pgs_cons (pg_name (i := 9) nd rfl (Or.inl rfl)) (pgs_cons (pg_name (i := 6) nd rfl (Or.inl rfl)) pgs_nil))))
          (pss_one (ps_dput (u1 hr) (pe_fld (pv 0) rfl) (pv 8) (pe_tup (pa_cons (pv 9) (pa_cons (pe_ifExp (pt_cmpR op_eq (pv 6) (pv 2) (nomark _)) (pv 3) (pv 2)) pa_nil))) rfl))))
      (pss_one (ps_ret (pe_tupleOf (by rfl) T.tuple (pe_callB cr_sorted (by rfl) T.sorted (by rfl) (pa_cons (pv 7) pa_nil)))))))), ?_⟩
    refine ⟨_, rfl, _, rfl, Nat.zero_le _, fun F nF => ⟨show 4 ≤ sizeLine by decide, fun t nt => ?_⟩⟩
    have q1 := same_upd (o := .lst []) nF
    have hF1 : upd H F (.lst []) F = some (.lst []) := upd_same
    generalize upd H F (.lst []) = H1 at *
    have q2 := same_upd (o := .tup [V.int 1, nv start, nv a, V.ref F]) nt
    have ht2 : upd H1 t (.tup [V.int 1, nv start, nv a, V.ref F]) t = some (.tup [V.int 1, nv start, nv a, V.ref F]) := upd_same
    have hF2 := q2 _ _ hF1
    refine ⟨t, _, rfl, SqT.of ht2, rfl, _, _, rfl, _, _, rfl, _, _, rfl, _, _, rfl, rfl, ?_⟩
    generalize upd H1 t (.tup [V.int 1, nv start, nv a, V.ref F]) = H2 at *
    have s2 := q1.trans q2
    have FD : F ≠ D := fun z => by
      obtain ⟨kvs, hD, _⟩ := st.dict
      rw [z, hD] at nF; cases nF
    refine ⟨_, rfl, o, dx, _, rfl, s2 _ _ (st.same _ _ ho), kF_at, _, rfl, _, rfl, _, rfl, G, o, D, q, es, 1, start, a, rfl, by decide, st.keep s2, fun r H3 s3 h1 h2 => ?_⟩
    refine ⟨fun m σ H4 => ∃ (found : List Nat) (side w c : Nat) (r : Option Nat) (x9 : Option V), m = es.length - found.length ∧ σ = [some (.ref o), some (nv start), some (nv a), some (nv b), some (nv side), some (nv w), some (nv c), some (.ref F), some (ov r), x9] ∧ side < 2 ∧ Same H H4 ∧ H4 F = some (.lst (found.map nv)) ∧
        XI (kL q) (kR q es) (kC es) a b start hv found side w c ∧ (∀ e ∈ found, eFind es e ≠ none) ∧ (∀ i, r = some i → kAsk q es side w c i) ∧ (r = none → ∀ i, ¬ kAsk q es side w c i),
      ⟨_, [], 1, start, a, r, _, rfl, rfl, by decide, s2.trans s3, s3 _ _ hF2, XI.init nb, fun e he => absurd he List.not_mem_nil, h1, h2⟩, ?_⟩
    rintro m σ H4 ⟨found, side, w, c, r, x9, rfl, rfl, hs, s4, hF4, X, fl, k1, k2⟩
    have lfb : found.length ≤ es.length := by
      have := X.nd.length_le_of_subset (l₂ := es.map (·.1)) (fun x hx => Classical.byContradiction fun z => fl x hx (eFind_none.mpr z))
      rw [List.length_map] at this
      exact this
    refine ⟨_, rfl, rfl, _, rfl, ?_⟩
    cases r with
    | some f =>
      obtain ⟨fw, fc⟩ := k1 f rfl
      have fn := X.i2 f fw fc
      have fE : eFind es f ≠ none := fun z => by unfold kC at fc; rw [z] at fc; cases fc
      have ndf : (f :: found).Nodup := List.nodup_cons.mpr ⟨fn, X.nd⟩
      have lf : found.length < es.length := by
        have := ndf.length_le_of_subset (l₂ := es.map (·.1)) (fun x hx => by
          rcases List.mem_cons.mp hx with rfl | hx
          · exact Classical.byContradiction fun z => fE (eFind_none.mpr z)
          · exact Classical.byContradiction fun z => fl x hx (eFind_none.mpr z))
        rw [List.length_cons, List.length_map] at this
        omega
      obtain ⟨⟨b', c'⟩, hbc⟩ : ∃ bc, eFind es f = some bc := by
        cases e : eFind es f with
        | none => exact absurd e fE
        | some bc => exact ⟨bc, rfl⟩
      refine iteT ?_
      refine ⟨_, fun σ' H' z => ⟨_, (by omega : es.length - (found.length + 1) < es.length - found.length), z⟩, ?_⟩
      have lem := st.len
      refine ⟨_, rfl, .inl ⟨rfl, _, SqL.of hF4⟩, _, rfl, F, _, _, rfl, rfl, hF4, small (by rw [List.length_map]; omega), ?_⟩
      have s5 : Same H (upd H4 F (.lst (found.map nv ++ [nv f]))) := Same.up s4 nF
      have hF5 : upd H4 F (.lst (found.map nv ++ [nv f])) F = some (.lst ((found ++ [f]).map nv)) := by rw [upd_same, List.map_append]; rfl
      show tSeq _ _ _ _ (upd H4 F (.lst (found.map nv ++ [nv f])))
      generalize upd H4 F (.lst (found.map nv ++ [nv f])) = H5 at *
      have st5 := st.keep s5
      obtain ⟨kvs, hD, hE⟩ := st5.dict
      obtain ⟨t1, hv1, ht1⟩ := (hE.find f).2 b' c' hbc
      have ho5 := st5.same _ _ ho
      have dg : DGet H5 D (nv f) (some (.ref t1)) := by
        have := DGet.k (k := Sum.inl (f : Int)) hD
        rw [hv1] at this
        exact this
      refine ⟨_, rfl, o, dx, _, rfl, ho5, kF_ends, _, rfl, _, rfl, o, _, dx, _, _, rfl, ho5, T.clos, T.kCalls, kF_calls, _, rfl, D, _, rfl, dg, .inr (.inl ⟨t1, _, _, nv b', rfl, rfl, SqT.of ht1, rfl, G, o, D, q, es, f, b', rfl, st5, fun t2 nt2 => ?_⟩)⟩
      have qT := same_upd (o := .tup [nv (f / q.g), nv (b' / q.g)]) nt2
      have ht22 : upd H5 t2 (.tup [nv (f / q.g), nv (b' / q.g)]) t2 = some (.tup [nv (f / q.g), nv (b' / q.g)]) := upd_same
      generalize upd H5 t2 (.tup [nv (f / q.g), nv (b' / q.g)]) = H6 at *
      have hR : kR q es f = b' / q.g := by unfold kR; rw [hbc]; rfl
      have e1s : V.int ((1 : Int) - (side : Int)) = nv (1 - side) := by
        show V.int ((1 : Int) - (side : Int)) = V.int ((1 - side : Nat) : Int)
        congr 1
        omega
      have ea : atI [nv (f / q.g), nv (b' / q.g)] ((1 - side : Nat) : Int) = some (nv (vS (kL q) (kR q es) (1 - side) f)) := by
        have : side = 0 ∨ side = 1 := by omega
        rcases this with rfl | rfl
        · rw [show vS (kL q) (kR q es) (1 - 0) f = b' / q.g from hR]; rfl
        · rfl
      refine ⟨_, rfl, _, _, nv (1 - side), rfl, rfl, e1s, .inr (.inl ⟨t2, _, _, _, rfl, rfl, SqT.of ht22, ea, ?_⟩)⟩
      refine ⟨_, rfl, _, _, nv (1 - side), rfl, rfl, e1s, ?_⟩
      have s6 := s5.trans qT
      have st6 := st.keep s6
      have X2 := X.step S hab na fw fc
      have fl2 : ∀ e ∈ found ++ [f], eFind es e ≠ none := fun e he => by
        rcases List.mem_append.mp he with he | he
        · exact fl e he
        · rw [List.mem_singleton.mp he]; exact fE
      have l2 : es.length - (found.length + 1) = es.length - (found ++ [f]).length := by rw [List.length_append]; rfl
      refine ⟨_, rfl, _, rfl, rfl, _, rfl, ?_⟩
      by_cases ca : c = a
      · have ef : flp a b c = b := by rw [ca, flp_a]
        rw [ef] at X2
        refine iteD (by rw [ca]) ?_
        refine ⟨_, rfl, ?_⟩
        refine ⟨_, rfl, o, dx, _, rfl, st6.same _ _ ho, kF_at, _, rfl, _, rfl, _, rfl, G, o, D, q, es, 1 - side, _, b, rfl, by omega, st6, fun r H7 s7 h1 h2 => ?_⟩
        exact ⟨found ++ [f], 1 - side, _, b, r, _, l2, rfl, by omega, s6.trans s7, s7 _ _ (qT _ _ hF5), X2, fl2, h1, h2⟩
      · have ef : flp a b c = a := by unfold flp; rw [if_neg ca]
        rw [ef] at X2
        refine iteDF (fun z => ca (by have z1 := V.int.inj z; omega)) ?_
        refine ⟨_, rfl, ?_⟩
        refine ⟨_, rfl, o, dx, _, rfl, st6.same _ _ ho, kF_at, _, rfl, _, rfl, _, rfl, G, o, D, q, es, 1 - side, _, a, rfl, by omega, st6, fun r H7 s7 h1 h2 => ?_⟩
        exact ⟨found ++ [f], 1 - side, _, a, r, _, l2, rfl, by omega, s6.trans s7, s7 _ _ (qT _ _ hF5), X2, fl2, h1, h2⟩
    | none =>
      refine iteF ?_
      obtain ⟨z1, z2, z3⟩ := X.last S hab na nb fun e h1 h2 => k2 rfl e ⟨h1, h2⟩
      refine ⟨_, rfl, F, rfl, ⟨_, SqL.of hF4⟩, ?_⟩
      refine for_it walk_list (fun i σ H5 => (∃ x6 x8 x9, σ = [some (.ref o), some (nv start), some (nv a), some (nv b), some (nv side), some (nv w), x6, some (.ref F), x8, x9]) ∧ ClosSt K G H5 o D q (flipE es a b (found.take i)) ∧ H5 F = some (.lst (found.map nv)))
        ⟨⟨_, _, _, rfl⟩, by rw [List.take_zero, flipE_nil]; exact st.keep s4, hF4⟩ (fun i σ H1 _ p => SqL.of p.2.2) (fun i x σ H5 H6 hi p y => ?_) (fun σ H5 p => ?_)
      · obtain ⟨⟨x6, x8, x9, rfl⟩, st5, hF5⟩ := p
        obtain ⟨rfl, hx⟩ := y
        obtain ⟨hi', rfl⟩ := nv_get' hx
        have fE := fl _ (List.getElem_mem hi')
        have fnot : found[i] ∉ found.take i := by
          intro hm
          obtain ⟨j, hj, e⟩ := List.mem_iff_getElem.mp hm
          rw [List.getElem_take] at e
          have hj2 : j < i := by rw [List.length_take] at hj; omega
          exact (List.pairwise_iff_getElem.mp X.nd j i (by omega) hi' hj2) e
        have hcol := X.edges _ (List.getElem_mem hi')
        have tk : found.take (i + 1) = found.take i ++ [found[i]] := by rw [List.take_add_one, List.getElem?_eq_getElem hi']; rfl
        generalize hu : found[i] = u at *
        obtain ⟨⟨b', c'⟩, hbc⟩ : ∃ bc, eFind es u = some bc := by
          cases e : eFind es u with
          | none => exact absurd e fE
          | some bc => exact ⟨bc, rfl⟩
        have hbc2 : eFind (flipE es a b (found.take i)) u = some (b', c') := by rw [flipE_find, hbc]; simp [fnot]
        have cab : c' = a ∨ c' = b := by
          unfold kC at hcol
          rw [hbc] at hcol
          rcases hcol with z | z
          · exact .inl (Option.some.inj z)
          · exact .inr (Option.some.inj z)
        have ho5 := st5.same _ _ ho
        obtain ⟨kvs, hD, hE⟩ := st5.dict
        obtain ⟨t1, hv1, ht1⟩ := (hE.find u).2 b' c' hbc2
        have dg : DGet H6 D (nv u) (some (.ref t1)) := by
          have := DGet.k (k := Sum.inl (u : Int)) hD
          rw [hv1] at this
          exact this
        refine ⟨_, rfl, o, _, dx, _, _, rfl, ho5, T.clos, T.kCalls, kF_calls, _, rfl, D, _, rfl, dg, t1, _, rfl, SqT.of ht1, rfl, _, _, rfl, _, _, rfl, rfl, ?_⟩
        have fs := flipE_snoc (a := a) (b := b) st.nd fnot hbc
        rw [← tk] at fs
        have fin : ∀ (t2 : Addr), H6 t2 = none → ∃ kv2, upd H6 t2 (.tup [nv b', nv (flp a b c')]) D = some (.dK kv2) ∧ kv2.length < sizeLine ∧ ClosSt K G (upd (upd H6 t2 (.tup [nv b', nv (flp a b c')])) D (.dK (putK kv2 (Sum.inl (u : Int)) (.ref t2)))) o D q (flipE es a b (found.take (i + 1))) ∧
            upd (upd H6 t2 (.tup [nv b', nv (flp a b c')])) D (.dK (putK kv2 (Sum.inl (u : Int)) (.ref t2))) F = some (.lst (found.map nv)) := by
          intro t2 nt2
          obtain ⟨kv2, e1, e2, e3⟩ := st5.repl (goal := b') (num := flp a b c') nt2 hbc2
          rw [← fs] at e3
          exact ⟨kv2, e1, e2, e3, by rw [upd_ne FD]; exact (same_upd nt2) _ _ hF5⟩
        have dxo : ∀ (t2 : Addr) (u2 : HO), H6 t2 = none → upd H6 t2 u2 o = some (.ins (He.ga K "Clos") dx (closF q.mid q.g q.s D)) := fun t2 u2 n2 => (same_upd n2) _ _ ho5
        refine ⟨_, rfl, _, rfl, _, rfl, rfl, _, rfl, ?_⟩
        rcases cab with rfl | rfl
        · rw [flp_a] at fin
          refine iteD rfl ?_
          refine ⟨_, rfl, show 2 ≤ sizeLine by decide, fun t2 nt2 => ?_⟩
          obtain ⟨kv2, e1, e2, e3, e4⟩ := fin t2 nt2
          exact ⟨_, rfl, o, _, dx, _, _, rfl, dxo t2 _ nt2, T.clos, T.kCalls, kF_calls, _, rfl, D, _, rfl, DPut.k (k := Sum.inl (u : Int)) e1 e2, ⟨_, _, _, rfl⟩, e3, e4⟩
        · rw [flp_b hab] at fin
          refine iteDF (fun z => hab (by have z1 := V.int.inj z; omega)) ?_
          refine ⟨_, rfl, show 2 ≤ sizeLine by decide, fun t2 nt2 => ?_⟩
          obtain ⟨kv2, e1, e2, e3, e4⟩ := fin t2 nt2
          exact ⟨_, rfl, o, _, dx, _, _, rfl, dxo t2 _ nt2, T.clos, T.kCalls, kF_calls, _, rfl, D, _, rfl, DPut.k (k := Sum.inl (u : Int)) e1 e2, ⟨_, _, _, rfl⟩, e3, e4⟩
      · obtain ⟨⟨x6, x8, x9, rfl⟩, st5, hF5⟩ := p
        rw [List.length_map, List.take_length] at st5
        have lem := st.len
        have hF5' : H5 F = some (.lst ((found.map fun (n : Nat) => (n : Int)).map V.int)) := by rw [hF5, List.map_map]; rfl
        refine ⟨_, rfl, F, _, rfl, SqL.of hF5', by rw [List.length_map]; omega, fun ns p pn sn np => ?_⟩
        refine .inl ⟨p, _, rfl, SqL.of upd_same, fun p2 np2 => ?_⟩
        exact k p2 _ found ((st5.keep (same_upd np)).keep (same_upd np2)) z1 z2 z3
end
end Ck
/-! ## text L61H -/
set_option Elab.async false
set_option linter.all false
set_option maxRecDepth 100000
set_option maxHeartbeats 4000000
namespace Ck
open PySem PySem.Spec PyProof.Rows L2
theorem eFind_app {es : List Ent} {one other c k : Nat} (hf : eFind es one = none) : eFind (es ++ [(one, other, c)]) k = if k = one then some (other, c) else eFind es k := by
  have e0 : eFind (es ++ [(one, other, c)]) k = (eFind es k).or (if k = one then some (other, c) else none) := by
    unfold eFind
    rw [List.find?_append]
    cases h : es.find? (fun e => e.1 == k) with
    | some e => rfl
    | none =>
      by_cases e : k = one
      · subst e; simp
      · have : (one == k) = false := beq_eq_false_iff_ne.mpr fun z => e z.symm
        simp [this, e]
  rw [e0]
  by_cases e : k = one
  · subst e
    rw [hf, if_pos rfl]
    rfl
  · rw [if_neg e, if_neg e]
    cases eFind es k <;> rfl
theorem snd_add {q : Par} {es : List Ent} {one other c : Nat} (hf : eFind es one = none) (S : Snd (kL q) (kR q es) (kC es)) (h0 : ∀ e, kL q e = one / q.g → kC es e ≠ some c) (h1 : ∀ e, kR q es e = other / q.g → kC es e ≠ some c) :
    Snd (kL q) (kR q (es ++ [(one, other, c)])) (kC (es ++ [(one, other, c)])) := by
  have cOne : kC es one = none := by unfold kC; rw [hf]; rfl
  have eR : ∀ k, kR q (es ++ [(one, other, c)]) k = if k = one then other / q.g else kR q es k := by
    intro k
    unfold kR
    rw [eFind_app hf]
    split <;> rfl
  have eC : kC (es ++ [(one, other, c)]) = fun k => if k = one then some c else kC es k := by
    funext k
    unfold kC
    rw [eFind_app hf]
    split <;> rfl
  rw [eC]
  refine Snd.put (L := kL q) (R := kR q (es ++ [(one, other, c)])) (C := kC es) (a := c) (k := one) ?_ h0 ?_
  · intro i j d hi hj ne
    have ni : i ≠ one := fun z => by rw [z, cOne] at hi; cases hi
    have nj : j ≠ one := fun z => by rw [z, cOne] at hj; cases hj
    rw [eR, eR, if_neg ni, if_neg nj]
    exact S i j d hi hj ne
  · intro e he
    rw [eR, eR, if_pos rfl] at he
    by_cases c1 : e = one
    · rw [c1, cOne]; exact fun z => by cases z
    · rw [if_neg c1] at he
      exact h1 e he
theorem kC_mem {q : Par} {es : List Ent} {e c : Nat} (h : kC es e = some c) : ∃ b, (e, b, c) ∈ es ∧ kR q es e = b / q.g := by
  unfold kC at h
  obtain ⟨⟨b, c'⟩, h1, h2⟩ := Option.map_eq_some_iff.mp h
  have h2 : c' = c := h2
  subst h2
  exact ⟨b, eFind_mem h1, by unfold kR; rw [h1]; rfl⟩
theorem ClosSt.wide {K : PySem.W.Frag} {G H : Hp} {o D : Addr} {q : Par} {es : List Ent} (c : ClosSt K G H o D q es) : ClosSt K (wo H D) H o D q es := by
  obtain ⟨dx, ho⟩ := c.st
  obtain ⟨kvs, hD, hE⟩ := c.dict
  have oD : o ≠ D := ne_of (c.same _ _ ho) hD (by intro z; cases z)
  exact ⟨wo_same _ _, wo_self _ _, ⟨dx, by rw [wo_ne oD]; exact c.same _ _ ho⟩, ⟨kvs, hD, hE⟩, c.nd, c.len, c.ok⟩
theorem ClosSt.back {K : PySem.W.Frag} {G H H' : Hp} {o D : Addr} {q : Par} {es es' : List Ent} (c : ClosSt K G H o D q es) (c' : ClosSt K (wo H D) H' o D q es') : ClosSt K G H' o D q es' :=
  ⟨(same_wo c.same c.fresh).trans c'.same, c.fresh, c.st, c'.dict, c'.nd, c'.len, c'.ok⟩
section
variable {P : Program} {w : World} {K : PySem.W.Frag} {mg : Str → Option Value} {base : Heap}
def spPutMoving (K : PySem.W.Frag) : Sp := fun vs H Q _ => ∃ (G : Hp) (o D : Addr) (q : Par) (es : List Ent) (one other : Nat), vs = [.ref o, nv one, nv other] ∧ ClosSt K G H o D q es ∧ one < q.g * q.s ∧ other < q.g * q.s ∧ eFind es one = none ∧ other ∉ es.map (·.2.1) ∧
  Snd (kL q) (kR q es) (kC es) ∧ (∀ e ∈ es, e.2.2 < q.mid) ∧ es.length < 50 ∧ (∃ c, c < q.mid ∧ ∀ e ∈ es, e.1 / q.g = one / q.g → e.2.2 ≠ c) ∧ (∃ c, c < q.mid ∧ ∀ e ∈ es, e.2.1 / q.g = other / q.g → e.2.2 ≠ c) ∧
  ∀ (v : V) (H' : Hp) (es' : List Ent), ClosSt K G H' o D q es' → Snd (kL q) (kR q es') (kC es') → (∀ e ∈ es', e.2.2 < q.mid) → es'.map (fun e => (e.1, e.2.1)) = es.map (fun e => (e.1, e.2.1)) ++ [(one, other)] →
    ((∃ c, c < q.mid ∧ (∀ e ∈ es, e.1 / q.g = one / q.g → e.2.2 ≠ c) ∧ ∀ e ∈ es, e.2.1 / q.g = other / q.g → e.2.2 ≠ c) → ∃ p, v = .ref p ∧ H' p = some (.tup [])) → Q v H'
abbrev nPM : List Str := ["self", "one", "other", "free", "here", "there", "mine", "theirs", "moved", "number"]
theorem sc_putMoving : FnScope nPM ["self", "one", "other"] (defScope dClosPutMoving) := ⟨rfl, rfl, rfl, by decide +kernel, rfl, by decide +kernel, by decide +kernel⟩
theorem m_putMoving (T : Tx K mg) (MC : MDef P w K mg base (He.ga K "Clos") "check" 2 ["self", "one", "other"] (spClosCheck K)) (MF : MDef P w K mg base (He.ga K "Clos") "free_middle" 2 ["self", "one", "other"] (spFreeMid K))
    (ME : MDef P w K mg base (He.ga K "Clos") "ends" 1 ["self", "one", "other"] (spEnds K)) (MI : MDef P w K mg base (He.ga K "Clos") "used_in" 1 ["self", "switch"] (spUsedIn K)) (MO : MDef P w K mg base (He.ga K "Clos") "used_out" 1 ["self", "switch"] (spUsedOut K))
    (MX : MDef P w K mg base (He.ga K "Clos") "exchange" 3 ["self", "start", "one", "other"] (spEx K)) : MDef P w K mg base (He.ga K "Clos") "put_moving" 4 ["self", "one", "other"] (spPutMoving K) := by
  refine mdef (st := dClosPutMoving) (q := "Clos.put_moving") T (by unfold fn defs1 defs2; simp) (by unfold faC; simp) sc_putMoving (fun vs H Q E h => ?_) (fun _ _ _ _ _ _ us hl => match us, hl with | [_, _, _], _ => rfl) (fun f cdv A outer s H vs Q E ec hr h => ?_)
  · obtain ⟨G, o, D, q, es, one, other, rfl, _⟩ := h
    rfl
  · obtain ⟨G, o, D, q, es, one, other, rfl, st, h1, h2, hf, hno, S, bd, hl, fL, fR, k⟩ := h
    obtain ⟨dx, ho⟩ := id st.st
    have nd := sc_putMoving.nd
    refine ⟨_, pss_cons (ps_expr (pe_m MC T.clos (hr.mono (by decide)) (pv 0) (pa_cons (pv 1) (pa_cons (pv 2) pa_nil))))
      (pss_cons (ps_set (i := 3) nd rfl (.inl rfl) (pe_m MF T.clos (hr.mono (by decide)) (pv 0) (pa_cons (pv 1) (pa_cons (pv 2) pa_nil))))
      (pss_cons (ps_if (pt_cmpR (op_neNil hr.units) (pv 3) (pe_lst pa_nil) (nomark _)) (pss_cons (ps_dput (u1 hr) (pe_fld (pv 0) rfl) (pv 1) (pe_tup (pa_cons (pv 2) (pa_cons (pe_ix ix_seq (pv 3) pe_int (fun _ _ => rfl)) pa_nil))) rfl) (pss_one (ps_ret (pe_tup pa_nil)))) pss_nil)
      (pss_cons (ps_asg (pe_m ME T.clos (hr.mono (by decide)) (pv 0) (pa_cons (pv 1) (pa_cons (pv 2) pa_nil))) (pg_tup rfl (pgs_cons (pg_name (i := 4) nd rfl (Or.inr rfl)) (pgs_cons (pg_name (i := 5) nd rfl (Or.inr rfl)) pgs_nil))))
      (pss_cons (ps_setLc (i := 6) (own := [("number", 9)]) (g := gName 9) rfl nd rfl rfl (sw_true rfl rfl rfl (by decide +kernel)) (pi_range1 (by rfl) T.range (pa_cons (pe_fld (pv 0) rfl) pa_nil)) (blkOk_by (N := nPM) (sc := defScope dClosPutMoving) (by decide +kernel))
        (fun _ _ _ _ _ => pg_name (i := 9) nd rfl (Or.inl rfl)) (fun _ _ _ _ _ => pts_one (pt_cmpR (r := rIn K true) op_notIn_seq (pv 9) (pe_m MI T.clos (hr.mono (by decide)) (pv 0) (pa_cons (pv 4) pa_nil)) (by rfl))) (fun _ _ _ _ _ => pv 9))
      (pss_cons (ps_setLc (i := 7) (own := [("number", 9)]) (g := gName 9) rfl nd rfl rfl (sw_true rfl rfl rfl (by decide +kernel)) (pi_range1 (by rfl) T.range (pa_cons (pe_fld (pv 0) rfl) pa_nil)) (blkOk_by (N := nPM) (sc := defScope dClosPutMoving) (by decide +kernel))
        (fun _ _ _ _ _ => pg_name (i := 9) nd rfl (Or.inl rfl)) (fun _ _ _ _ _ => pts_one (pt_cmpR (r := rIn K true) op_notIn_seq (pv 9) (pe_m MO T.clos (hr.mono (by decide)) (pv 0) (pa_cons (pv 5) pa_nil)) (by rfl))) (fun _ _ _ _ _ => pv 9))
      (pss_cons (ps_if (PW.pt (pw_or (pt_cmpR (op_eqNil hr.units) (pv 6) (pe_lst pa_nil) (nomark _)) (pw_or1 (pt_cmpR (op_eqNil hr.units) (pv 7) (pe_lst pa_nil) (nomark _))))) (pss_one ps_never) pss_nil)
      (pss_cons (ps_set (i := 8) nd rfl (.inl rfl) (pe_m MX T.clos (hr.mono (by decide)) (pv 0) (pa_cons (pv 5) (pa_cons (pe_ix ix_seq (pv 6) pe_int (fun _ _ => rfl)) (pa_cons (pe_ix ix_seq (pv 7) pe_int (fun _ _ => rfl)) pa_nil)))))
      (pss_cons (ps_dput (u1 hr) (pe_fld (pv 0) rfl) (pv 1) (pe_tup (pa_cons (pv 2) (pa_cons (pe_ix ix_seq (pv 6) pe_int (fun _ _ => rfl)) pa_nil))) rfl)
      (pss_one (ps_ret (pv 8))))))))))), ?_⟩
    refine ⟨_, rfl, o, dx, _, rfl, st.same _ _ ho, kF_check, _, rfl, _, rfl, G, o, D, q, es, one, other, rfl, st, h1, h2, hf, hno, fun H1 s1 => ?_⟩
    have st1 := st.keep s1
    refine ⟨_, rfl, o, dx, _, rfl, st1.same _ _ ho, kF_fm, _, rfl, _, rfl, G, o, D, q, es, one, other, rfl, st1, fun pf H2 fr s2 hfr F => ?_⟩
    have st2 := st1.keep s2
    refine ⟨_, rfl, Nat.zero_le _, fun N1 nN1 => ?_⟩
    have q3 := same_upd (o := .lst []) nN1
    refine ⟨pf, N1, fr, rfl, rfl, q3 _ _ hfr, upd_same, _, rfl, ?_⟩
    have hfr3 := q3 _ _ hfr
    have st3 := st2.keep q3
    generalize upd H2 N1 (.lst []) = H3 at *
    -- conditions on entries and on keys
    have toL : ∀ c, (∀ e ∈ es, e.1 / q.g = one / q.g → e.2.2 ≠ c) → ∀ e, kL q e = one / q.g → kC es e ≠ some c := fun c hc e he z => by
      obtain ⟨b, hm, _⟩ := kC_mem (q := q) z
      exact hc _ hm he rfl
    have toR : ∀ c, (∀ e ∈ es, e.2.1 / q.g = other / q.g → e.2.2 ≠ c) → ∀ e, kR q es e = other / q.g → kC es e ≠ some c := fun c hc e he z => by
      obtain ⟨b, hm, hb⟩ := kC_mem (q := q) z
      exact hc _ hm (hb ▸ he) rfl
    cases fr with
    | cons c0 r =>
      refine iteNT (fun z => by cases z) ?_
      have F0 := (F c0).mp List.mem_cons_self
      refine ⟨_, rfl, _, rfl, .inl ⟨pf, _, _, nv c0, rfl, rfl, SqL.of hfr3, at_nv (fs := c0 :: r) (i := 0) (Nat.zero_lt_succ _), show 2 ≤ sizeLine by decide, fun t nt => ?_⟩⟩
      obtain ⟨kvs, e1, e2, st4⟩ := st3.add (num := c0) (other := other) nt hf hl
      have ho4 := (same_upd (o := .tup [nv other, nv c0]) nt) _ _ (st3.same _ _ ho)
      refine ⟨_, rfl, o, _, dx, _, _, rfl, ho4, T.clos, T.kCalls, kF_calls, _, rfl, D, _, rfl, DPut.k (k := Sum.inl (one : Int)) e1 e2, ?_⟩
      refine ⟨Nat.zero_le _, fun v nv0 => ?_⟩
      refine k _ _ (es ++ [(one, other, c0)]) (st4.keep (same_upd nv0)) (snd_add hf S (toL c0 F0.2.1) (toR c0 F0.2.2)) (fun e he => ?_) ?_ (fun _ => ⟨v, rfl, upd_same⟩)
      · rcases List.mem_append.mp he with he | he
        · exact bd e he
        · rw [List.mem_singleton.mp he]; exact F0.1
      · rw [List.map_append]
        rfl
    | nil =>
      refine iteNS rfl ?_
      refine ⟨_, rfl, o, dx, _, rfl, st3.same _ _ ho, kF_ends, _, rfl, _, rfl, G, o, D, q, es, one, other, rfl, st3, fun t nt => ?_⟩
      have q4 := same_upd (o := .tup [nv (one / q.g), nv (other / q.g)]) nt
      have ht4 : upd H3 t (.tup [nv (one / q.g), nv (other / q.g)]) t = some (.tup [nv (one / q.g), nv (other / q.g)]) := upd_same
      refine ⟨t, _, rfl, SqT.of ht4, rfl, _, _, rfl, _, _, rfl, rfl, ?_⟩
      generalize upd H3 t (.tup [nv (one / q.g), nv (other / q.g)]) = H4 at *
      have st4 := st3.keep q4
      have m3 := st.ok.m3
      have en : ((q.mid : Nat) : Int).toNat = q.mid := by omega
      -- mine
      refine ⟨_, rfl, o, _, dx, _, _, rfl, st4.same _ _ ho, T.clos, T.kMid, kF_mid, _, rfl, by omega, by omega, fun D1 nD1 => ?_⟩
      refine lc_it walk_range (fun i H5 => Same H4 H5 ∧ ∃ acc : List Nat, H5 D1 = some (.lst (acc.map nv)) ∧ acc.length ≤ i ∧ (∀ c ∈ acc, c < i ∧ ∀ e ∈ es, e.1 / q.g = one / q.g → e.2.2 ≠ c) ∧ ∀ c, c < i → (∀ e ∈ es, e.1 / q.g = one / q.g → e.2.2 ≠ c) → c ∈ acc)
        ⟨same_upd nD1, [], upd_same, Nat.le_refl _, fun c hc => absurd hc List.not_mem_nil, fun c hc => absurd hc (Nat.not_lt_zero c)⟩ (fun _ _ _ _ => trivial) (fun i x H5 H6 hi p y => ?_) (fun H5 p => ?_)
      · obtain ⟨s5, acc, hD1, la, a1, a2⟩ := p
        obtain ⟨rfl, hx⟩ := y
        have hx : x = nv i := by rw [hx]; show V.int _ = V.int _; rw [Int.zero_add]
        subst hx
        have hi : i < q.mid := by omega
        have st5 := st4.keep s5
        refine ⟨rfl, _, rfl, _, rfl, o, dx, _, rfl, st5.same _ _ ho, kF_ui, _, rfl, G, o, D, q, es, one / q.g, rfl, st5, fun p2 H7 us s7 hus pus => ?_⟩
        refine ⟨p2, _, rfl, .inl (SqL.of hus), rfl, flat_nv us, _, rfl, ?_⟩
        show if (!inV (nv i) (us.map nv)) = true then _ else _
        rw [inV_nv]
        have pn := perm_notin (f := fun e => e.1 / q.g) (c := i) pus
        by_cases c1 : i ∈ us
        · refine iteNS c1 ?_
          refine ⟨s5.trans s7, acc, s7 _ _ hD1, by omega, fun c hc => ⟨by have := (a1 c hc).1; omega, (a1 c hc).2⟩, fun c hc hfree => ?_⟩
          by_cases e : c = i
          · subst e; exact absurd c1 (pn.mpr hfree)
          · exact a2 c (by omega) hfree
        · refine iteNT c1 ?_
          refine ⟨_, rfl, _, s7 _ _ hD1, small (by rw [List.length_map]; omega), Same.up (s5.trans s7) nD1, acc ++ [i], by rw [upd_same, List.map_append]; rfl, by rw [List.length_append]; show acc.length + 1 ≤ _; omega, fun c hc => ?_, fun c hc hfree => ?_⟩
          · rcases List.mem_append.mp hc with hc | hc
            · exact ⟨by have := (a1 c hc).1; omega, (a1 c hc).2⟩
            · rw [List.mem_singleton.mp hc]; exact ⟨by omega, pn.mp c1⟩
          · by_cases e : c = i
            · exact List.mem_append_right _ (List.mem_singleton.mpr e)
            · exact List.mem_append_left _ (a2 c (by omega) hfree)
      obtain ⟨s5, mine, hM, lm, am, bm⟩ := p
      rw [en] at lm am bm
      have st5 := st4.keep s5
      -- theirs
      refine ⟨_, rfl, o, _, dx, _, _, rfl, st5.same _ _ ho, T.clos, T.kMid, kF_mid, _, rfl, by omega, by omega, fun D2 nD2 => ?_⟩
      refine lc_it walk_range (fun i H6 => Same H5 H6 ∧ ∃ acc : List Nat, H6 D2 = some (.lst (acc.map nv)) ∧ acc.length ≤ i ∧ (∀ c ∈ acc, c < i ∧ ∀ e ∈ es, e.2.1 / q.g = other / q.g → e.2.2 ≠ c) ∧ ∀ c, c < i → (∀ e ∈ es, e.2.1 / q.g = other / q.g → e.2.2 ≠ c) → c ∈ acc)
        ⟨same_upd nD2, [], upd_same, Nat.le_refl _, fun c hc => absurd hc List.not_mem_nil, fun c hc => absurd hc (Nat.not_lt_zero c)⟩ (fun _ _ _ _ => trivial) (fun i x H6 H7 hi p y => ?_) (fun H6 p => ?_)
      · obtain ⟨s6, acc, hD2, la, a1, a2⟩ := p
        obtain ⟨rfl, hx⟩ := y
        have hx : x = nv i := by rw [hx]; show V.int _ = V.int _; rw [Int.zero_add]
        subst hx
        have hi : i < q.mid := by omega
        have st6 := st5.keep s6
        refine ⟨rfl, _, rfl, _, rfl, o, dx, _, rfl, st6.same _ _ ho, kF_uo, _, rfl, G, o, D, q, es, other / q.g, rfl, st6, fun p2 H8 us s8 hus pus => ?_⟩
        refine ⟨p2, _, rfl, .inl (SqL.of hus), rfl, flat_nv us, _, rfl, ?_⟩
        show if (!inV (nv i) (us.map nv)) = true then _ else _
        rw [inV_nv]
        have pn := perm_notin (f := fun e => e.2.1 / q.g) (c := i) pus
        by_cases c1 : i ∈ us
        · refine iteNS c1 ?_
          refine ⟨s6.trans s8, acc, s8 _ _ hD2, by omega, fun c hc => ⟨by have := (a1 c hc).1; omega, (a1 c hc).2⟩, fun c hc hfree => ?_⟩
          by_cases e : c = i
          · subst e; exact absurd c1 (pn.mpr hfree)
          · exact a2 c (by omega) hfree
        · refine iteNT c1 ?_
          refine ⟨_, rfl, _, s8 _ _ hD2, small (by rw [List.length_map]; omega), Same.up (s6.trans s8) nD2, acc ++ [i], by rw [upd_same, List.map_append]; rfl, by rw [List.length_append]; show acc.length + 1 ≤ _; omega, fun c hc => ?_, fun c hc hfree => ?_⟩
          · rcases List.mem_append.mp hc with hc | hc
            · exact ⟨by have := (a1 c hc).1; omega, (a1 c hc).2⟩
            · rw [List.mem_singleton.mp hc]; exact ⟨by omega, pn.mp c1⟩
          · by_cases e : c = i
            · exact List.mem_append_right _ (List.mem_singleton.mpr e)
            · exact List.mem_append_left _ (a2 c (by omega) hfree)
      obtain ⟨s6, theirs, hT2, lt2, at2, bt2⟩ := p
      rw [en] at lt2 at2 bt2
      obtain ⟨ca, cam, cafree⟩ := fL
      obtain ⟨cb, cbm, cbfree⟩ := fR
      have mm := bm ca cam cafree
      have tm := bt2 cb cbm cbfree
      cases mine with
      | nil => exact absurd mm List.not_mem_nil
      | cons a rm =>
      cases theirs with
      | nil => exact absurd tm List.not_mem_nil
      | cons b rt =>
      obtain ⟨ham, hafree⟩ := am a List.mem_cons_self
      obtain ⟨hbm, hbfree⟩ := at2 b List.mem_cons_self
      have hab : a ≠ b := fun z => by
        subst z
        exact absurd ((F a).mpr ⟨ham, hafree, hbfree⟩) List.not_mem_nil
      have hM6 := s6 _ _ hM
      refine ⟨_, rfl, Nat.zero_le _, fun N2 nN2 => ?_⟩
      have q7 := same_upd (o := .lst []) nN2
      refine ⟨D1, N2, a :: rm, rfl, rfl, q7 _ _ hM6, upd_same, _, rfl, iteDF (fun z => by cases z) ?_⟩
      have hM7 := q7 _ _ hM6
      have hT7 := q7 _ _ hT2
      have st7 := (st5.keep s6).keep q7
      generalize upd H6 N2 (.lst []) = H7 at *
      refine ⟨_, rfl, Nat.zero_le _, fun N3 nN3 => ?_⟩
      have q8 := same_upd (o := .lst []) nN3
      refine ⟨D2, N3, b :: rt, rfl, rfl, q8 _ _ hT7, upd_same, _, rfl, iteDF (fun z => by cases z) ?_⟩
      have hM8 := q8 _ _ hM7
      have hT8 := q8 _ _ hT7
      have st8 := st7.keep q8
      generalize upd H7 N3 (.lst []) = H8 at *
      obtain ⟨kvs8, hD8, _⟩ := st8.dict
      have D1D : D1 ≠ D := fun z => by
        obtain ⟨kvs4, hD4, _⟩ := st4.dict
        rw [z, hD4] at nD1; cases nD1
      refine ⟨_, rfl, o, dx, _, rfl, st8.same _ _ ho, kF_ex, _, rfl, _, rfl, .inl ⟨D1, _, _, nv a, rfl, rfl, SqL.of hM8, at_nv (fs := a :: rm) (i := 0) (Nat.zero_lt_succ _), _, rfl, .inl ⟨D2, _, _, nv b, rfl, rfl, SqL.of hT8, at_nv (fs := b :: rt) (i := 0) (Nat.zero_lt_succ _), wo H8 D, o, D, q, es, other / q.g, a, b, one / q.g, rfl, st8.wide, hab, S, toL a hafree, toR b hbfree, fun p H9 F2 st9 S9 n0 n1 => ?_⟩⟩⟩
      have hM9 : H9 D1 = some (.lst ((a :: rm).map nv)) := st9.same _ _ (by rw [wo_ne D1D]; exact hM8)
      have st9 := st8.back st9
      have hf9 : eFind (flipE es a b F2) one = none := by rw [flipE_find, hf]; rfl
      have hl9 : (flipE es a b F2).length < 50 := by unfold flipE; rw [List.length_map]; exact hl
      refine ⟨_, rfl, _, rfl, .inl ⟨D1, _, _, nv a, rfl, rfl, SqL.of hM9, at_nv (fs := a :: rm) (i := 0) (Nat.zero_lt_succ _), show 2 ≤ sizeLine by decide, fun t2 nt2 => ?_⟩⟩
      obtain ⟨kvs, e1, e2, st10⟩ := st9.add (num := a) (other := other) nt2 hf9 hl9
      have ho10 := (same_upd (o := .tup [nv other, nv a]) nt2) _ _ (st9.same _ _ ho)
      refine ⟨_, rfl, o, _, dx, _, _, rfl, ho10, T.clos, T.kCalls, kF_calls, _, rfl, D, _, rfl, DPut.k (k := Sum.inl (one : Int)) e1 e2, ?_⟩
      refine ⟨_, rfl, k _ _ (flipE es a b F2 ++ [(one, other, a)]) st10 ?_ (fun e he => ?_) ?_ (fun ⟨c, hc1, hc2, hc3⟩ => absurd ((F c).mpr ⟨hc1, hc2, hc3⟩) List.not_mem_nil)⟩
      · exact snd_add hf9 (by rw [flipE_R, flipE_C]; exact S9) (by rw [flipE_C]; exact n0) (by rw [flipE_R, flipE_C]; exact n1)
      · rcases List.mem_append.mp he with he | he
        · unfold flipE at he
          obtain ⟨e0, he0, rfl⟩ := List.mem_map.mp he
          have b0 := bd e0 he0
          split
          · show flp a b e0.2.2 < q.mid
            unfold flp
            split
            · exact hbm
            · exact ham
          · exact b0
        · rw [List.mem_singleton.mp he]; exact ham
      · rw [List.map_append, flipE_io]
        rfl
end
end Ck
/-! ## text L61I -/
set_option Elab.async false
set_option linter.all false
set_option maxRecDepth 100000
set_option maxHeartbeats 4000000
namespace Ck
open PySem PySem.Spec PyProof.Rows L2
theorem kC_of {es : List Ent} (nd : (es.map (·.1)).Nodup) {e : Ent} (h : e ∈ es) : kC es e.1 = some e.2.2 := by
  unfold kC
  rw [eFind_of nd (k := e.1) (b := e.2.1) (c := e.2.2) h]
  rfl
theorem kR_of {q : Par} {es : List Ent} (nd : (es.map (·.1)).Nodup) {e : Ent} (h : e ∈ es) : kR q es e.1 = e.2.1 / q.g := by
  unfold kR
  rw [eFind_of nd (k := e.1) (b := e.2.1) (c := e.2.2) h]
  rfl
theorem nodup_side {q : Par} {es : List Ent} (nd : (es.map (·.1)).Nodup) (S : Snd (kL q) (kR q es) (kC es)) {f : Ent → Nat} {sw : Nat} (hf : (∀ e ∈ es, f e = kL q e.1) ∨ ∀ e ∈ es, f e = kR q es e.1) : ((es.filter fun e => f e == sw).map (·.2.2)).Nodup := by
  have h1 : es.Pairwise fun a b => a.1 ≠ b.1 := List.pairwise_map.mp nd
  refine List.pairwise_map.mpr ?_
  refine List.Pairwise.imp_of_mem ?_ (h1.filter _)
  intro a b ha hb hab z
  obtain ⟨ma, fa⟩ := List.mem_filter.mp ha
  obtain ⟨mb, fb⟩ := List.mem_filter.mp hb
  have fa : f a = sw := beq_iff_eq.mp fa
  have fb : f b = sw := beq_iff_eq.mp fb
  have := S a.1 b.1 a.2.2 (kC_of nd ma) (by rw [z]; exact kC_of nd mb) hab
  rcases hf with hf | hf
  · exact this.1 (by rw [← hf a ma, ← hf b mb, fa, fb])
  · exact this.2 (by rw [← hf a ma, ← hf b mb, fa, fb])
section
variable {P : Program} {w : World} {K : PySem.W.Frag} {mg : Str → Option Value} {base : Heap}
def spIsSound (K : PySem.W.Frag) : Sp := fun vs H Q _ => ∃ (G : Hp) (o D : Addr) (q : Par) (es : List Ent), vs = [.ref o] ∧ ClosSt K G H o D q es ∧ Snd (kL q) (kR q es) (kC es) ∧ ∀ H', Same H H' → Q (.bl true) H'
theorem sc_isSound : FnScope ["self", "switch", "row", "number"] ["self"] (defScope dClosIsSound) := ⟨rfl, rfl, rfl, by decide +kernel, rfl, by decide +kernel, by decide +kernel⟩
theorem m_isSound (T : Tx K mg) (MI : MDef P w K mg base (He.ga K "Clos") "used_in" 1 ["self", "switch"] (spUsedIn K)) (MO : MDef P w K mg base (He.ga K "Clos") "used_out" 1 ["self", "switch"] (spUsedOut K)) :
    MDef P w K mg base (He.ga K "Clos") "is_sound" 2 ["self"] (spIsSound K) := by
  refine mdef (st := dClosIsSound) (q := "Clos.is_sound") T (by unfold fn defs1 defs2; simp) (by unfold faC; simp) sc_isSound (fun vs H Q E h => ?_) (fun _ _ _ _ _ _ us hl => match us, hl with | [_], _ => rfl) (fun f cdv A outer s H vs Q E ec hr h => ?_)
  · obtain ⟨G, o, D, q, es, rfl, _⟩ := h
    rfl
  · obtain ⟨G, o, D, q, es, rfl, st, S, k⟩ := h
    obtain ⟨dx, ho⟩ := id st.st
    have nd := sc_isSound.nd
    refine ⟨_, pss_cons (ps_for PassesOwn.never rfl (pi_range1 (by rfl) T.range (pa_cons (pe_fld (pv 0) rfl) pa_nil)) (pg_name (i := 1) nd rfl (Or.inl rfl))
        (pss_one (ps_for PassesOwn.never rfl (pi_tup (pe_tup (pa_cons (pe_m MI T.clos hr (pv 0) (pa_cons (pv 1) pa_nil)) (pa_cons (pe_m MO T.clos hr (pv 0) (pa_cons (pv 1) pa_nil)) pa_nil)))) (pg_name (i := 2) nd rfl (Or.inl rfl))
          (pss_one (ps_if (pt_cmpR op_ne (pe_callB call_lenD (by rfl) T.len PySem.boot_len (pa_cons (pe_callTy (call_dictP rfl) (by rfl) T.dict (by decide +kernel) (pa_cons
              (pe_lc (own := [("number", 3)]) (g := gName 3) rfl nd (pi_list (pv 2)) (blkOk_by (N := ["self", "switch", "row", "number"]) (sc := defScope dClosIsSound) (by decide +kernel))
                (fun _ _ _ _ _ => pg_name (i := 3) nd rfl (Or.inl rfl)) (fun _ _ _ _ _ => pts_nil) (fun _ _ _ _ _ => pe_tup (pa_cons (pv 3) (pa_cons pe_int pa_nil)))) pa_nil)) pa_nil))
              (pe_callB call_len_seq (by rfl) T.len PySem.boot_len (pa_cons (pv 2) pa_nil)) (nomark _)) (pss_one ps_never) pss_nil)))))
      (pss_one (ps_ret pe_bl)), ?_⟩
    have s8 := st.ok.s8
    have lem := st.len
    refine ⟨_, rfl, o, _, dx, _, _, rfl, st.same _ _ ho, T.clos, T.kSw, kF_sw, _, rfl, by omega, by omega, ?_⟩
    refine for_it walk_range (fun i σ H1 => (∃ x1 x2 x3, σ = [some (.ref o), x1, x2, x3]) ∧ Same H H1) ⟨⟨_, _, _, rfl⟩, Same.refl _⟩ (fun _ _ _ _ _ => trivial) (fun i x σ H1 H2 hi p y => ?_) (fun σ H1 p => ?_)
    · obtain ⟨⟨x1, x2, x3, rfl⟩, s1⟩ := p
      obtain ⟨rfl, hx⟩ := y
      have hx : x = nv i := by rw [hx]; show V.int _ = V.int _; rw [Int.zero_add]
      subst hx
      have st1 := st.keep s1
      refine ⟨_, rfl, o, dx, _, rfl, st1.same _ _ ho, kF_ui, _, rfl, G, o, D, q, es, i, rfl, st1, fun pm H3 us s3 hus pus => ?_⟩
      have st3 := st1.keep s3
      refine ⟨_, rfl, o, dx, _, rfl, st3.same _ _ ho, kF_uo, _, rfl, G, o, D, q, es, i, rfl, st3, fun pt H4 ws s4 hws pws => ?_⟩
      refine ⟨show 2 ≤ sizeLine by decide, fun t nt => ?_⟩
      have q5 := same_upd (o := .tup [V.ref pm, V.ref pt]) nt
      have ht5 : upd H4 t (.tup [V.ref pm, V.ref pt]) t = some (.tup [V.ref pm, V.ref pt]) := upd_same
      have hus5 := q5 _ _ (s4 _ _ hus)
      have hws5 := q5 _ _ hws
      have s15 := (((s1.trans s3).trans s4).trans q5)
      have nus : us.Nodup := pus.nodup_iff.mpr (nodup_side (f := fun e => e.1 / q.g) st.nd S (.inl fun e _ => rfl))
      have nws : ws.Nodup := pws.nodup_iff.mpr (nodup_side (f := fun e => e.2.1 / q.g) st.nd S (.inr fun e he => (kR_of st.nd he).symm))
      have lus : us.length ≤ 50 := by
        have := pus.length_eq
        rw [List.length_map] at this
        have h1 := List.length_filter_le (fun e : Ent => e.1 / q.g == i) es
        omega
      have lws : ws.length ≤ 50 := by
        have := pws.length_eq
        rw [List.length_map] at this
        have h1 := List.length_filter_le (fun e : Ent => e.2.1 / q.g == i) es
        omega
      refine ⟨t, rfl, ⟨_, SqT.of ht5⟩, ?_⟩
      generalize upd H4 t (.tup [V.ref pm, V.ref pt]) = H5 at *
      refine for_it walk_tup (fun j σ H6 => (∃ x2 x3, σ = [some (.ref o), some (nv i), x2, x3]) ∧ Same H5 H6) ⟨⟨_, _, rfl⟩, Same.refl _⟩ (fun j σ H6 _ p => SqT.of (p.2 _ _ ht5)) (fun j x σ H6 H7 hj p y => ?_) (fun σ H6 p => ?_)
      · obtain ⟨⟨x2, x3, rfl⟩, s6⟩ := p
        obtain ⟨rfl, hx⟩ := y
        obtain ⟨row, zs, rfl, hrow, nzs, lzs⟩ : ∃ (row : Addr) (zs : List Nat), x = .ref row ∧ H7 row = some (.lst (zs.map nv)) ∧ zs.Nodup ∧ zs.length ≤ 50 := by
          match j, hx with
          | 0, hx => exact ⟨pm, us, (Option.some.inj hx).symm, s6 _ _ hus5, nus, lus⟩
          | 1, hx => exact ⟨pt, ws, (Option.some.inj hx).symm, s6 _ _ hws5, nws, lws⟩
        refine ⟨_, rfl, row, rfl, ⟨_, SqL.of hrow⟩, fun D2 nD2 => ?_⟩
        refine lc_it walk_list (LcT H7 D2 fun i => (zs.take i).map fun g => [nv g, .int 1]) (lcT_start nD2 rfl) (fun i H2 _ p => SqL.of (p.1 _ _ hrow)) (fun k x H8 H9 hi p y => ?_) (fun H8 p => ?_)
        · obtain ⟨rfl, hx⟩ := y
          obtain ⟨hi', rfl⟩ := nv_get' hx
          refine ⟨rfl, tyes ?_⟩
          refine ⟨_, rfl, (show 2 ≤ sizeLine by decide), fun q nq => ?_⟩
          refine lcT_put nD2 p nq ?_ (by rw [List.length_map, List.length_take]; omega)
          rw [List.take_add_one, List.getElem?_eq_getElem hi', List.map_append]
          rfl
        · obtain ⟨s2, ts, hD2, hts⟩ := p
          have hts : TupsAt H8 ts (zs.map fun g => [nv g, .int 1]) := by
            have e : (fun i => (zs.take i).map fun g => [nv g, V.int 1]) (zs.map nv).length = zs.map fun g => [nv g, V.int 1] := by
              show (zs.take (zs.map nv).length).map _ = _
              rw [List.length_map, List.take_length]
            exact e ▸ hts
          refine ⟨D2, ts, zs.map fun (g : Nat) => ((Sum.inl (g : Int) : Key), V.int 1), rfl, SqL.of hD2, ?_, fun d nd2 => ?_⟩
          · exact paired_mapR hts fun a x e => SqT.of e
          · refine ⟨d, _, rfl, upd_same, ?_⟩
            have sd : Same H7 (upd H8 d (.dK (mergeK [] (zs.map fun (g : Nat) => ((Sum.inl (g : Int) : Key), V.int 1))))) := s2.trans (same_upd nd2)
            refine ⟨_, rfl, _, _, rfl, .inl (SqL.of (sd _ _ hrow)), rfl, _, rfl, ?_⟩
            refine iteNS (by rw [List.length_map, dict_len zs (V.int 1) nzs]) ?_
            exact ⟨⟨_, _, rfl⟩, s6.trans sd⟩
      · obtain ⟨⟨x2, x3, rfl⟩, s6⟩ := p
        exact ⟨⟨_, _, _, rfl⟩, s15.trans s6⟩
    · obtain ⟨⟨x1, x2, x3, rfl⟩, s1⟩ := p
      exact k _ s1
/-! ### shown -/
def outOf (es : List Ent) (k : Nat) : Nat := ((eFind es k).map (·.1)).getD 0
def numOf (es : List Ent) (k : Nat) : Nat := ((eFind es k).map (·.2)).getD 0
def spShown (K : PySem.W.Frag) : Sp := fun vs H Q _ => ∃ (G : Hp) (o D : Addr) (q : Par) (es : List Ent), vs = [.ref o] ∧ ClosSt K G H o D q es ∧
  ∀ (p : Addr) (H' : Hp) (os : List Nat) (ts : List Addr), Same H H' → H' p = some (.tup (ts.map V.ref)) → TupsAt H' ts ((os.map fun k => [k, outOf es k, numOf es k]).map fun r => r.map nv) → os.Perm (es.map (·.1)) → os.Pairwise (· ≤ ·) → Q (.ref p) H'
theorem sc_shown : FnScope ["self", "one"] ["self"] (defScope dClosShown) := ⟨rfl, rfl, rfl, by decide +kernel, rfl, by decide +kernel, by decide +kernel⟩
theorem m_shown (T : Tx K mg) : MDef P w K mg base (He.ga K "Clos") "shown" 1 ["self"] (spShown K) := by
  refine mdef (st := dClosShown) (q := "Clos.shown") T (by unfold fn defs1 defs2; simp) (by unfold faC; simp) sc_shown (fun vs H Q E h => ?_) (fun _ _ _ _ _ _ us hl => match us, hl with | [_], _ => rfl) (fun f cdv A outer s H vs Q E ec hr h => ?_)
  · obtain ⟨G, o, D, q, es, rfl, _⟩ := h
    rfl
  · obtain ⟨G, o, D, q, es, rfl, st, k⟩ := h
    obtain ⟨dx, ho⟩ := id st.st
    obtain ⟨kvs, hD, hE⟩ := st.dict
    have nd := sc_shown.nd
    refine ⟨_, pss_one (ps_ret (pe_tupleOf (by rfl) T.tuple (pe_lc (own := [("one", 1)]) (g := gName 1) (tt := tYes)
      (te := tTup (tCons (tVar 1) (tCons (tOp (rIx K) (tDGet (tFld K (tVar 0) "calls") (tVar 1)) (tC (.int 0))) (tCons (tOp (rIx K) (tDGet (tFld K (tVar 0) "calls") (tVar 1)) (tC (.int 1))) tNil)))) rfl nd
      (pi_list (pe_callB (call_sortedDI rfl) (by rfl) T.sorted (by rfl) (pa_cons (pe_fld (pv 0) rfl) pa_nil)))
      (blkOk_by (N := ["self", "one"]) (sc := defScope dClosShown) (own := [("one", 1)]) (by decide +kernel)) (fun _ _ _ _ _ => pg_name (i := 1) nd rfl (Or.inl rfl)) (fun _ _ _ _ _ => pts_nil)
      (fun _ _ _ _ _ => pe_tup (pa_cons (pv 1) (pa_cons (pe_ix ix_seq (pe_dget (u1 hr) (pe_fld (pv 0) rfl) (pv 1) (fun _ _ => rfl)) pe_int (fun _ _ => rfl)) (pa_cons (pe_ix ix_seq (pe_dget (u1 hr) (pe_fld (pv 0) rfl) (pv 1) (fun _ _ => rfl)) pe_int (fun _ _ => rfl)) pa_nil))))))), ?_⟩
    have ho1 := st.same _ _ ho
    have lem := st.len
    refine ⟨_, rfl, o, _, dx, _, _, rfl, ho1, T.clos, T.kCalls, kF_calls, D, kvs, _, rfl, .inl hD, hE.keys, by rw [List.length_map]; omega, fun ys p perm srt np => ?_⟩
    have perm2 : ys.Perm ((es.map (·.1)).map fun (n : Nat) => (n : Int)) := by
      rw [List.map_map]
      exact perm
    obtain ⟨us, e1, pus, sus⟩ := sorted_nat perm2
    have sus := sus srt
    have q1 := same_upd (o := .lst (us.map nv)) np
    have hp : upd H p (.lst (us.map nv)) p = some (.lst (us.map nv)) := upd_same
    refine ⟨p, rfl, ⟨us.map nv, by rw [e1]; exact SqL.of hp⟩, ?_⟩
    rw [e1]
    generalize upd H p (.lst (us.map nv)) = H1 at *
    have lus : us.length ≤ 50 := by
      have := pus.length_eq
      rw [List.length_map] at this
      omega
    intro D2 nD2
    refine lc_it walk_list (LcT H1 D2 fun i => (((us.take i).map fun k => [k, outOf es k, numOf es k]).map fun r => r.map nv)) (lcT_start nD2 rfl) (fun i H2 _ p => SqL.of (p.1 _ _ hp)) (fun i x H2 H3 hi p y => ?_) (fun H2 p => ?_)
    · obtain ⟨rfl, hx⟩ := y
      obtain ⟨hi', rfl⟩ := nv_get' hx
      have hmem : us[i] ∈ es.map (·.1) := pus.mem_iff.mp (List.getElem_mem hi')
      have tk : us.take (i + 1) = us.take i ++ [us[i]] := by rw [List.take_add_one, List.getElem?_eq_getElem hi']; rfl
      generalize hu : us[i] = u at *
      obtain ⟨⟨b, c⟩, hbc⟩ : ∃ bc, eFind es u = some bc := by
        cases e : eFind es u with
        | none => exact absurd hmem (eFind_none.mp e)
        | some bc => exact ⟨bc, rfl⟩
      obtain ⟨t, ht, htt⟩ := (hE.find u).2 b c hbc
      have s3 := q1.trans p.1
      have hD3 := s3 _ _ hD
      have dg : DGet H3 D (nv u) (some (.ref t)) := by
        have := DGet.k (k := Sum.inl (u : Int)) hD3
        rw [ht] at this
        exact this
      refine ⟨rfl, tyes ?_⟩
      refine ⟨_, rfl, _, rfl, o, _, dx, _, _, rfl, s3 _ _ ho1, T.clos, T.kCalls, kF_calls, _, rfl, D, _, rfl, dg, .inr (.inl ⟨t, _, _, nv b, rfl, rfl, SqT.of (s3 _ _ htt), rfl, _, rfl, o, _, dx, _, _, rfl, s3 _ _ ho1, T.clos, T.kCalls, kF_calls, _, rfl, D, _, rfl, dg, .inr (.inl ⟨t, _, _, nv c, rfl, rfl, SqT.of (s3 _ _ htt), rfl, show 3 ≤ sizeLine by decide, fun z nz => ?_⟩)⟩)⟩
      refine lcT_put nD2 p nz ?_ ?_
      · rw [tk, List.map_append, List.map_append]
        have e1 : outOf es u = b := by unfold outOf; rw [hbc]; rfl
        have e2 : numOf es u = c := by unfold numOf; rw [hbc]; rfl
        show _ ++ [[nv u, nv (outOf es u), nv (numOf es u)]] = _
        rw [e1, e2]
      · rw [List.length_map, List.length_map, List.length_take]
        omega
    · obtain ⟨s2, ts, hD2, hts⟩ := p
      have hts : TupsAt H2 ts ((us.map fun k => [k, outOf es k, numOf es k]).map fun r => r.map nv) := by
        have e : (fun i => ((us.take i).map fun k => [k, outOf es k, numOf es k]).map fun r => r.map nv) (us.map nv).length = (us.map fun k => [k, outOf es k, numOf es k]).map fun r => r.map nv := by
          show ((us.take (us.map nv).length).map _).map _ = _
          rw [List.length_map, List.take_length]
        exact e ▸ hts
      refine .inl ⟨D2, _, rfl, SqL.of hD2, fun p3 np3 => ?_⟩
      exact k p3 _ us ts ((q1.trans s2).trans (same_upd np3)) upd_same (hts.same (same_upd np3)) pus sus
end
end Ck
/-! ## text L61J -/
set_option Elab.async false
set_option linter.all false
set_option maxRecDepth 100000
set_option maxHeartbeats 4000000
namespace Ck
open PySem PySem.Spec PyProof.Rows L2
section
variable {P : Program} {w : World} {K : PySem.W.Frag} {mg : Str → Option Value} {base : Heap}
def spCarried (K : PySem.W.Frag) : Sp := fun vs H Q _ => ∃ (a : Addr) (ps : List (Option Nat)) (n g : Nat), vs = [.ref a, nv g, nv g] ∧ H a = some (.tup (ps.map ov)) ∧ Valid ps n ∧ (g = 1 ∨ g = 2) ∧ 2 ≤ n ∧ n ≤ 8 ∧ n % 2 = 0 ∧ TT K H ∧
  ∀ (o : Addr) (H' G : Hp) (D : Addr) (es : List Ent), Same H H' → ClosSt K G H' o D ⟨g, g, n / g⟩ es → es.map (fun e => (e.1, e.2.1)) = pairsUp ps n → Q (.ref o) H'
theorem sc_carried : FnScope ["pairs", "middle", "gates", "net", "one", "number"] ["pairs", "middle", "gates"] (defScope dCarriedNet) := ⟨rfl, rfl, rfl, by decide +kernel, rfl, by decide +kernel, by decide +kernel⟩
theorem g_carried (T : Tx K mg) (GA : GDef P w K mg base "assigned" 4 ["pairs", "gates"] (spAssigned K)) (KC : KDef P w K mg base "Clos" (He.ga K "Clos") 1 ["self", "middle", "gates", "switches"] (spClosInit K))
    (MP : MDef P w K mg base (He.ga K "Clos") "put_by" 3 ["self", "one", "other", "number"] (spPutBy K)) : GDef P w K mg base "carried_net" 5 ["pairs", "middle", "gates"] (spCarried K) := by
  refine gdef (st := dCarriedNet) T (by unfold fn defs1 defs2 defs3; simp) (by unfold faG; simp) sc_carried (fun vs H Q E h => ?_) (fun _ _ _ _ _ _ us hl => match us, hl with | [_, _, _], _ => rfl) (fun f cdv A outer s H vs Q E ec hr h => ?_)
  · obtain ⟨a, ps, n, g, rfl, _⟩ := h
    rfl
  · obtain ⟨a, ps, n, g, rfl, ha, va, hg, n2, n8, ev, tt, k⟩ := h
    have nd := sc_carried.nd
    refine ⟨_, pss_cons (ps_if (pt_cmpR op_lt (pv 1) (pv 2) (nomark _)) (pss_one ps_never) pss_nil)
      (pss_cons (ps_set (i := 3) nd rfl (.inl rfl) (pe_k KC (hr.mono (by decide)) (by rfl) (pa_cons (pv 1) (pa_cons (pv 2) (pa_cons (pe_op op_fdivE (pe_callB call_lenE (by rfl) T.len PySem.boot_len (pa_cons (pv 0) pa_nil)) (pv 2)) pa_nil)))))
      (pss_cons (ps_for PassesOwn.never rfl (pi_enumT (by rfl) T.enumerate (pa_cons (pe_g GA hr (by rfl) (pa_cons (pv 0) (pa_cons (pv 2) pa_nil))) pa_nil)) (pg_tup rfl (pgs_cons (pg_name (i := 4) nd rfl (Or.inl rfl)) (pgs_cons (pg_name (i := 5) nd rfl (Or.inl rfl)) pgs_nil)))
        (pss_one (ps_if (pt_cmpR op_notN (pv 5) pe_non (nomark _)) (pss_one (ps_expr (pe_m MP T.clos (hr.mono (by decide)) (pv 3) (pa_cons (pv 4) (pa_cons (pe_ix ix_seq (pv 0) (pv 4) (fun _ _ => rfl)) (pa_cons (pv 5) pa_nil)))))) pss_nil)))
      (pss_one (ps_ret (pv 3))))), ?_⟩
    have gn : g * (n / g) = n := by rcases hg with rfl | rfl <;> omega
    have ng1 : 1 ≤ n / g := by rcases hg with rfl | rfl <;> omega
    have ng8 : n / g ≤ 8 := by rcases hg with rfl | rfl <;> omega
    refine ⟨_, rfl, _, rfl, _, _, rfl, rfl, _, rfl, iteDF (Int.lt_irrefl _) ?_⟩
    refine ⟨_, rfl, _, rfl, _, rfl, a, _, nv n, rfl, .inr (SqT.of ha), by rw [List.length_map, va.len]; rfl, _, rfl, _, _, nv (n / g), rfl, rfl, ⟨by omega, by omega⟩, rfl, fun x dx nx ndx hne => ?_⟩
    refine ⟨H, x, dx, ⟨g, g, n / g⟩, rfl, Same.up (same_upd ndx) nx, nx, upd_same, ⟨hg, by show 1 ≤ g; omega, by show g ≤ 3; omega, ng1, ng8⟩, fun G D H1 sG nD st => ⟨rfl, ?_⟩⟩
    have s1 := sG.trans st.same
    refine ⟨_, rfl, _, rfl, a, ps, n, g, rfl, s1 _ _ ha, va, hg, by omega, tt.same s1, fun pr H2 res s2 hres A => ?_⟩
    have st2 := st.keep s2
    have hH2 : Same H H2 := s1.trans s2
    have hprD : pr ≠ D := fun z => by
      obtain ⟨kvs, hD, _⟩ := st2.dict
      rw [z, hD] at hres; cases hres
    have haD : a ≠ D := ne_of_none ha nD
    -- everything but the dict
    have stw := st2.wide
    refine ⟨pr, _, rfl, SqT.of hres, ?_⟩
    refine for_it (walk_enumT (xs := res.map ov)) (fun i σ H3 => (∃ x4 x5, σ = [some (.ref a), some (nv g), some (nv g), some (.ref x), x4, x5]) ∧ ∃ es, ClosSt K (wo H2 D) H3 x D ⟨g, g, n / g⟩ es ∧ es.map (fun e => (e.1, e.2.1)) = pairsUp ps i ∧ ∀ e ∈ es, hA res e.1 = some e.2.2)
      ⟨⟨_, _, rfl⟩, [], stw, rfl, fun e he => absurd he List.not_mem_nil⟩ (fun i σ H3 _ p => ?_) (fun i z σ H3 H4 hi p y => ?_) (fun σ H3 p => ?_)
    · obtain ⟨_, es, st3, _⟩ := p
      exact SqT.of (st3.same _ _ (by rw [wo_ne hprD]; exact hres))
    · obtain ⟨⟨x4, x5, rfl⟩, es, st3, eu, er⟩ := p
      obtain ⟨t, u, v, rfl, nt, rfl, e1, e2⟩ := y
      obtain rfl : V.int (i : Nat) = u := Option.some.inj e1
      obtain ⟨hi', rfl⟩ := ov_get e2
      have hin : i < n := by rw [← A.len]; exact hi'
      have hri : hA res i = res[i] := by
        have := hA_get hi'
        rw [List.getElem?_eq_getElem hi'] at this
        exact (Option.some.inj this).symm
      have sT := same_upd (o := .tup [V.int (i : Nat), ov res[i]]) nt
      have st4 := st3.keep sT
      have ha4 := st4.same _ _ (by rw [wo_ne haD]; exact hH2 _ _ ha)
      have hsu := pairsUp_succ ps i
      refine ⟨t, _, rfl, SqT.of upd_same, rfl, _, _, rfl, _, _, rfl, rfl, ?_⟩
      refine ⟨_, rfl, rfl, _, rfl, ?_⟩
      cases e : res[i] with
      | none =>
        refine iteF ?_
        rw [e] at st4 hri
        have pn : hA ps i = none := (A.non i hin).mp hri
        rw [pn, List.append_nil] at hsu
        exact ⟨⟨_, _, rfl⟩, es, st4, by rw [hsu]; exact eu, er⟩
      | some num =>
        refine iteT ?_
        rw [e] at st4 hri ha4
        obtain ⟨other, hot⟩ : ∃ other, hA ps i = some other := by
          cases q : hA ps i with
          | none => rw [(A.non i hin).mpr q] at hri; cases hri
          | some other => exact ⟨other, rfl⟩
        rw [hot] at hsu
        have li : i < ps.length := by rw [va.len]; exact hin
        have olt : other < n := by
          have := hA_get li
          rw [hot] at this
          exact va.lt other (List.mem_of_getElem? this)
        obtain ⟨dx4, ho4⟩ := st4.st
        have memu : ∀ e ∈ es, e.1 < i ∧ hA ps e.1 = some e.2.1 := by
          intro e he
          have : (e.1, e.2.1) ∈ pairsUp ps i := by rw [← eu]; exact List.mem_map.mpr ⟨e, he, rfl⟩
          exact pairsUp_mem this
        have hf : eFind es i = none := eFind_none.mpr fun hm => by
          obtain ⟨e, he, z⟩ := List.mem_map.mp hm
          have := (memu e he).1
          omega
        have hout : other ∉ es.map (·.2.1) := fun hm => by
          obtain ⟨e, he, z⟩ := List.mem_map.mp hm
          have m := memu e he
          have z : e.2.1 = other := z
          have := valid_inj va (z ▸ m.2) hot
          have := m.1
          omega
        have hap : ∀ e ∈ es, e.2.2 = num → e.1 / g ≠ i / g ∧ e.2.1 / g ≠ other / g := fun e he z => by
          have m := memu e he
          exact A.ap e.1 i e.2.1 other num (by omega) hin (by omega) m.2 hot (z ▸ er e he) hri
        have les : es.length ≤ 8 := by
          have := congrArg List.length eu
          rw [List.length_map] at this
          have := pairsUp_len ps i
          omega
        refine ⟨_, rfl, x, dx4, _, rfl, st4.same _ _ ho4, kF_pb, _, rfl, _, rfl, _, rfl, .inr (.inl ⟨a, _, _, nv other, rfl, rfl, SqT.of ha4, ?_, _, rfl, wo H2 D, x, D, _, es, i, other, num, rfl, st4, ?_, ?_, hf, hout, ⟨A.lt i num hri, fun e he z1 z2 => (hap e he z2).1 z1, fun e he z1 z2 => (hap e he z2).2 z1⟩, by omega, fun v H5 st5 => ?_⟩)⟩
        · have := ov_at li
          rw [hot] at this
          exact this
        · show i < g * (n / g); omega
        · show other < g * (n / g); omega
        · refine ⟨⟨_, _, rfl⟩, _, st5, by rw [List.map_append, eu, hsu]; rfl, fun e he => ?_⟩
          rcases List.mem_append.mp he with he | he
          · exact er e he
          · rw [List.mem_singleton.mp he]; exact hri
    · obtain ⟨⟨x4, x5, rfl⟩, es, st3, eu, er⟩ := p
      rw [List.length_map, A.len] at eu
      refine ⟨_, rfl, ?_⟩
      exact k x H3 (wo H2 D) D es ((same_wo hH2 nD).trans st3.same) st3 eu
end
end Ck
/-! ## text L61K -/
set_option Elab.async false
set_option linter.all false
set_option maxRecDepth 100000
set_option maxHeartbeats 4000000
namespace Ck
open PySem PySem.Spec PyProof.Rows L2
theorem q_eq {Q : VK} {v w : V} {H : Hp} (e : w = v) (h : Q w H) : Q v H := e ▸ h
def D3 (H : Hp) (d : Addr) : Prop := ∃ a b c : Int, H d = some (.lst [V.int a, V.int b, V.int c])
theorem upd_upd {H : Hp} {d : Addr} {x y : HO} : upd (upd H d x) d y = upd H d y := by
  funext b
  by_cases c : b = d
  · subst c; rw [upd_same, upd_same]
  · rw [upd_ne c, upd_ne c, upd_ne c]
section
variable {P : Program} {w : World} {K : PySem.W.Frag} {mg : Str → Option Value} {base : Heap}
/-! ### the dice -/
def spDice : Sp := fun vs H Q _ => ∃ c : Int, vs = [V.int c] ∧ ∀ p x y z, H p = none → Q (.ref p) (upd H p (.lst [V.int x, V.int y, V.int z]))
theorem sc_dice : FnScope ["_law_cell"] ["_law_cell"] (defScope dDice) := ⟨rfl, rfl, rfl, by decide +kernel, rfl, by decide +kernel, by decide +kernel⟩
theorem g_dice (T : Tx K mg) : GDef P w K mg base "_law_dice" 1 ["_law_cell"] spDice := by
  refine gdef (st := dDice) T (by unfold fn defs1 defs2 defs3; simp) (by unfold faG; simp) sc_dice (fun vs H Q E h => ?_) (fun _ _ _ _ _ _ us hl => match us, hl with | [_], _ => rfl) (fun f cdv A outer s H vs Q E ec hr h => ?_)
  · obtain ⟨c, rfl, _⟩ := h
    rfl
  · obtain ⟨c, rfl, k⟩ := h
    refine ⟨_, pss_cons (ps_if (pt_chain op_lt op_lt (pe_op op_sub pe_int pe_int) (pv 0) pe_int) (pss_one (ps_ret (pe_lst (pa_cons (pe_callB call_abs (by rfl) T.abs (by rfl) (pa_cons (pv 0) pa_nil)) (pa_cons pe_int (pa_cons pe_int pa_nil)))))) pss_nil)
      (pss_one (ps_ret (pe_lst (pa_cons (pv 0) (pa_cons (pe_op op_add pe_int (pe_op op_mod (pe_callTy call_int1 (by rfl) T.int (by decide +kernel) (pa_cons (pv 0) pa_nil)) pe_int)) (pa_cons (pe_callTy call_int1 (by rfl) T.int (by decide +kernel) (pa_cons (pe_cmpR op_ge (pv 0) (pe_op op_pow pe_int pe_int) (nomark _)) pa_nil)) pa_nil)))))), ?_⟩
    have second : tRet (tLst (tCons (tVar 0) (tCons (tOp (rI0 fun i j => .int (i + j)) (tC (.int 1)) (tOp (rI (fun _ j => 0 < j) fun i j => .int (i % j)) (tCB (fun xs H Q => (∃ i, xs = [.int i] ∧ Q (.int i) H) ∨ ∃ k, xs = [.bl k] ∧ Q (.int (if k then 1 else 0)) H) (tCons (tVar 0) tNil)) (tC (.int 1009))))
        (tCons (tCB (fun xs H Q => (∃ i, xs = [.int i] ∧ Q (.int i) H) ∨ ∃ k, xs = [.bl k] ∧ Q (.int (if k then 1 else 0)) H) (tCons (tOp (rI0 fun i j => .bl (decide (j ≤ i))) (tVar 0) (tOp (rI CPow fun i j => .int (i ^ j.toNat)) (tC (.int 10)) (tC (.int 18)))) tNil)) tNil)))) { nx := fun _ H' => Q .non H', rt := Q } (start ["_law_cell"] [V.int c]) H := by
      refine ⟨_, rfl, _, rfl, .inl ⟨_, rfl, _, _, rfl, rfl, (by show (0 : Int) < 1009; decide), _, _, rfl, rfl, ?_⟩⟩
      refine ⟨_, rfl, _, _, rfl, rfl, ⟨by decide, by decide, by decide⟩, _, _, rfl, rfl, .inr ⟨_, rfl, show 3 ≤ sizeLine by decide, fun p np => ?_⟩⟩
      exact k p _ _ _ np
    refine ⟨_, _, rfl, rfl, _, rfl, _, _, rfl, rfl, _, rfl, ?_⟩
    by_cases h1 : ((0 : Int) - 10) < c
    · refine iteD h1 ?_
      refine ⟨_, _, rfl, rfl, _, rfl, ?_⟩
      by_cases h2 : c < (10 : Int)
      · refine iteD h2 ?_
        refine ⟨_, rfl, _, rfl, show 3 ≤ sizeLine by decide, fun p np => ?_⟩
        exact k p _ _ _ np
      · exact iteDF h2 second
    · refine iteDF h1 ?_
      exact ⟨_, rfl, iteF second⟩
/-! ### a roll -/
def spRoll : Sp := fun vs H Q _ => ∃ (d : Addr) (many : Nat), vs = [.ref d, nv many] ∧ D3 H d ∧ 1 ≤ many ∧ many ≤ 100 ∧ ∀ (r : Nat) (x y z : Int), r < many → Q (nv r) (upd H d (.lst [V.int x, V.int y, V.int z]))
theorem sc_roll : FnScope ["_law_dice_here", "_law_many", "_law_found"] ["_law_dice_here", "_law_many"] (defScope dRoll) := ⟨rfl, rfl, rfl, by decide +kernel, rfl, by decide +kernel, by decide +kernel⟩
theorem g_roll (T : Tx K mg) : GDef P w K mg base "_law_roll" 1 ["_law_dice_here", "_law_many"] spRoll := by
  refine gdef (st := dRoll) T (by unfold fn defs1 defs2 defs3; simp) (by unfold faG; simp) sc_roll (fun vs H Q E h => ?_) (fun _ _ _ _ _ _ us hl => match us, hl with | [_, _], _ => rfl) (fun f cdv A outer s H vs Q E ec hr h => ?_)
  · obtain ⟨d, many, rfl, _⟩ := h
    rfl
  · obtain ⟨d, many, rfl, ⟨a, b, c, hd⟩, m1, m100, k⟩ := h
    have nd := sc_roll.nd
    refine ⟨_, pss_cons (ps_if (PW.pt (pw_or (pt_cmpR op_eq (pe_ix ix_seq (pv 0) pe_int (fun _ _ => rfl)) pe_int (nomark _)) (pw_or1 (PW.pt (pw_and (pt_cmpR op_eq (pe_ix ix_seq (pv 0) pe_int (fun _ _ => rfl)) pe_int (nomark _)) (pw_and1 (pt_cmpR op_gt (pe_ix ix_seq (pv 0) pe_int (fun _ _ => rfl)) pe_int (nomark _))))))))
        (pss_cons (ps_set (i := 2) nd rfl (.inl rfl) (pe_op op_mod (pe_callTy call_int1 (by rfl) T.int (by decide +kernel) (pa_cons (pe_ix ix_seq (pv 0) pe_int (fun _ _ => rfl)) pa_nil)) (pv 1)))
        (pss_cons (ps_asg (pe_op op_fdiv (pe_ix ix_seq (pv 0) pe_int (fun _ _ => rfl)) (pv 1)) (pg_sub (pv 0) pe_int set_list))
        (pss_one (ps_ret (pv 2))))) pss_nil)
      (pss_cons (ps_asg pe_int (pg_sub (pv 0) pe_int set_list))
      (pss_cons (ps_asg (pe_op op_mod (pe_callTy call_int1 (by rfl) T.int (by decide +kernel) (pa_cons (pe_op op_add (pe_op op_add (pe_op op_mul (pe_ix ix_seq (pv 0) pe_int (fun _ _ => rfl)) pe_int) (pe_op op_mul (pe_ix ix_seq (pv 0) pe_int (fun _ _ => rfl)) pe_int)) pe_int) pa_nil)) pe_int) (pg_sub (pv 0) pe_int set_list))
      (pss_cons (ps_asg (pe_op op_add (pe_ix ix_seq (pv 0) pe_int (fun _ _ => rfl)) pe_int) (pg_sub (pv 0) pe_int set_list))
      (pss_one (ps_ret (pe_op op_mod (pe_callTy call_int1 (by rfl) T.int (by decide +kernel) (pa_cons (pe_op op_add (pe_op op_fdiv (pe_ix ix_seq (pv 0) pe_int (fun _ _ => rfl)) pe_int) (pe_ix ix_seq (pv 0) pe_int (fun _ _ => rfl))) pa_nil)) (pv 1))))))), ?_⟩
    have mp : (0 : Int) < (many : Int) := by omega
    have em : ∀ x : Int, nv (x % (many : Int)).toNat = V.int (x % (many : Int)) := fun x => by
      show V.int _ = V.int _
      have := Int.emod_nonneg x (b := (many : Int)) (by omega)
      congr 1
      omega
    have lm : ∀ x : Int, (x % (many : Int)).toNat < many := fun x => by
      have := Int.emod_nonneg x (b := (many : Int)) (by omega)
      have := Int.emod_lt_of_pos x mp
      omega
    -- the two ways on
    refine ⟨_, rfl, .inl ⟨d, _, _, V.int c, rfl, rfl, SqL.of hd, rfl, rfl, _, rfl, ?_⟩⟩
    by_cases c2 : V.int c = V.int 2
    · refine iteD c2 ?_
      refine iteT ?_
      refine ⟨_, rfl, .inl ⟨d, _, _, V.int a, rfl, rfl, SqL.of hd, rfl, .inl ⟨_, rfl, _, rfl, _, _, rfl, rfl, mp, ?_⟩⟩⟩
      refine ⟨_, rfl, .inl ⟨d, _, _, V.int a, rfl, rfl, SqL.of hd, rfl, _, rfl, _, _, rfl, rfl, ⟨by omega, by omega⟩, ?_⟩⟩
      refine ⟨_, rfl, d, _, _, 0, rfl, rfl, hd, rfl, ?_⟩
      exact ⟨_, rfl, q_eq (em a) (k _ _ b c (lm a))⟩
    · refine iteDF c2 ?_
      refine ⟨_, rfl, .inl ⟨d, _, _, V.int c, rfl, rfl, SqL.of hd, rfl, rfl, _, rfl, ?_⟩⟩
      by_cases c1 : V.int c = V.int 1
      · refine iteD c1 ?_
        refine ⟨_, rfl, .inl ⟨d, _, _, V.int a, rfl, rfl, SqL.of hd, rfl, _, _, rfl, rfl, _, rfl, ?_⟩⟩
        by_cases ca : (0 : Int) < a
        · refine iteD ca ?_
          refine ⟨_, rfl, .inl ⟨d, _, _, V.int a, rfl, rfl, SqL.of hd, rfl, .inl ⟨_, rfl, _, rfl, _, _, rfl, rfl, mp, ?_⟩⟩⟩
          refine ⟨_, rfl, .inl ⟨d, _, _, V.int a, rfl, rfl, SqL.of hd, rfl, _, rfl, _, _, rfl, rfl, ⟨by omega, by omega⟩, ?_⟩⟩
          refine ⟨_, rfl, d, _, _, 0, rfl, rfl, hd, rfl, ?_⟩
          exact ⟨_, rfl, q_eq (em a) (k _ _ b c (lm a))⟩
        · refine iteDF ca ?_
          refine ⟨_, rfl, d, _, _, 2, rfl, rfl, hd, rfl, ?_⟩
          refine ⟨_, rfl, .inl ⟨d, _, _, V.int a, rfl, rfl, SqL.of upd_same, rfl, _, _, rfl, rfl, .inr ⟨by decide, by decide⟩, _, rfl, .inl ⟨d, _, _, V.int b, rfl, rfl, SqL.of upd_same, rfl, _, _, rfl, rfl, .inr ⟨by decide, by decide⟩, _, _, rfl, rfl, _, _, rfl, rfl, .inl ⟨_, rfl, _, _, rfl, rfl, (by show (0 : Int) < 2147483647; decide), ?_⟩⟩⟩⟩
          refine ⟨_, rfl, d, _, _, 0, rfl, rfl, upd_same, rfl, ?_⟩
          refine ⟨_, rfl, .inl ⟨d, _, _, V.int b, rfl, rfl, SqL.of upd_same, rfl, _, _, rfl, rfl, ?_⟩⟩
          refine ⟨_, rfl, d, _, _, 1, rfl, rfl, upd_same, rfl, ?_⟩
          refine ⟨_, rfl, .inl ⟨d, _, _, _, rfl, rfl, SqL.of upd_same, rfl, _, _, rfl, rfl, ⟨by decide, by decide⟩, _, rfl, .inl ⟨d, _, _, _, rfl, rfl, SqL.of upd_same, rfl, _, _, rfl, rfl, .inl ⟨_, rfl, _, rfl, _, _, rfl, rfl, mp, ?_⟩⟩⟩⟩
          rw [upd_upd, upd_upd]
          exact q_eq (em _) (k _ _ _ _ (lm _))
      · refine iteDF c1 ?_
        refine iteF ?_
        refine ⟨_, rfl, d, _, _, 2, rfl, rfl, hd, rfl, ?_⟩
        refine ⟨_, rfl, .inl ⟨d, _, _, V.int a, rfl, rfl, SqL.of upd_same, rfl, _, _, rfl, rfl, .inr ⟨by decide, by decide⟩, _, rfl, .inl ⟨d, _, _, V.int b, rfl, rfl, SqL.of upd_same, rfl, _, _, rfl, rfl, .inr ⟨by decide, by decide⟩, _, _, rfl, rfl, _, _, rfl, rfl, .inl ⟨_, rfl, _, _, rfl, rfl, (by show (0 : Int) < 2147483647; decide), ?_⟩⟩⟩⟩
        refine ⟨_, rfl, d, _, _, 0, rfl, rfl, upd_same, rfl, ?_⟩
        refine ⟨_, rfl, .inl ⟨d, _, _, V.int b, rfl, rfl, SqL.of upd_same, rfl, _, _, rfl, rfl, ?_⟩⟩
        refine ⟨_, rfl, d, _, _, 1, rfl, rfl, upd_same, rfl, ?_⟩
        refine ⟨_, rfl, .inl ⟨d, _, _, _, rfl, rfl, SqL.of upd_same, rfl, _, _, rfl, rfl, ⟨by decide, by decide⟩, _, rfl, .inl ⟨d, _, _, _, rfl, rfl, SqL.of upd_same, rfl, _, _, rfl, rfl, .inl ⟨_, rfl, _, rfl, _, _, rfl, rfl, mp, ?_⟩⟩⟩⟩
        rw [upd_upd, upd_upd]
        exact q_eq (em _) (k _ _ _ _ (lm _))
end
end Ck
/-! ## text L61L -/
set_option Elab.async false
set_option linter.all false
set_option maxRecDepth 100000
set_option maxHeartbeats 4000000
namespace Ck
open PySem PySem.Spec PyProof.Rows L2
def rEqNilI (K : PySem.W.Frag) : R2 := fun x y H Q => ∃ (a b : Addr) (xs : List Int), x = .ref a ∧ y = .ref b ∧ xs.length ≤ 1 ∧ H a = some (.lst (xs.map V.int)) ∧ H b = some (.lst []) ∧ Q (.bl (decide (xs = []))) H
theorem op_eqNilI {X : Cx} (hu : X.A.units + 64 < cLine) : OpR X (compareOp .Eq) (rEqNilI X.K) := by
  intro pins s σ H x y v u Q I rx ry h
  obtain ⟨a, b, xs, e1, e2, l1, ha, hb, q⟩ := h
  subst e1
  subst e2
  match xs, l1 with
  | [], _ => exact op_eqD hu pins s σ H _ _ v u Q I rx ry ⟨_, _, .lst (SqL.of ha) .nil, .lst (SqL.of hb) .nil, rfl, rfl, q⟩
  | [c], _ => exact op_eqD hu pins s σ H _ _ v u Q I rx ry ⟨_, _, .lst (SqL.of ha) (.cons (.int c) .nil), .lst (SqL.of hb) .nil, rfl, rfl, q⟩
section
variable {P : Program} {w : World} {K : PySem.W.Frag} {mg : Str → Option Value} {base : Heap}
/-! ### the rounds: one -/
def spRounds (K : PySem.W.Frag) : Sp := fun vs H Q _ => ∃ (a : Addr) (ns : List Int), vs = [.ref a, V.int 1] ∧ SqL K H a (ns.map V.int) ∧ ∀ (p d : Addr) (G H' : Hp), Same H G → Same G H' → G d = none → D3 H' d → H' p = some (.lst [.ref d]) → p ≠ d → Q (.ref p) H'
theorem sc_rounds : FnScope ["_law_script", "_law_most", "_law_cells", "_law_cell"] ["_law_script", "_law_most"] (defScope dRounds) := ⟨rfl, rfl, rfl, by decide +kernel, rfl, by decide +kernel, by decide +kernel⟩
theorem g_rounds (T : Tx K mg) (GD : GDef P w K mg base "_law_dice" 1 ["_law_cell"] spDice) : GDef P w K mg base "_law_rounds" 2 ["_law_script", "_law_most"] (spRounds K) := by
  refine gdef (st := dRounds) T (by unfold fn defs1 defs2 defs3; simp) (by unfold faG; simp) sc_rounds (fun vs H Q E h => ?_) (fun _ _ _ _ _ _ us hl => match us, hl with | [_, _], _ => rfl) (fun f cdv A outer s H vs Q E ec hr h => ?_)
  · obtain ⟨a, ns, rfl, _⟩ := h
    rfl
  · obtain ⟨a, ns, rfl, ha, k⟩ := h
    have nd := sc_rounds.nd
    refine ⟨_, pss_cons (ps_set (i := 2) nd rfl (.inl rfl) (pe_slice sl_list (pv 0) po_none (po_some (pv 1))))
      (pss_cons (ps_if (pt_cmpR (op_eqNilI hr.units) (pv 2) (pe_lst pa_nil) (nomark _)) (pss_one (ps_set (i := 2) nd rfl (.inl rfl) (pe_lst (pa_cons pe_int pa_nil)))) pss_nil)
      (pss_one (ps_ret (pe_lc (own := [("_law_cell", 3)]) (g := gName 3) (tt := tYes) rfl nd (pi_list (pv 2)) (blkOk_by (N := ["_law_script", "_law_most", "_law_cells", "_law_cell"]) (sc := defScope dRounds) (own := [("_law_cell", 3)]) (by decide +kernel))
        (fun _ _ _ _ _ => pg_name (i := 3) nd rfl (Or.inl rfl)) (fun _ _ _ _ _ => pts_nil) (fun _ _ _ _ _ => pe_g GD hr (by rfl) (pa_cons (pv 3) pa_nil)))))), ?_⟩
    -- the list of one cell
    have last : ∀ (H3 : Hp) (L : Addr) (c : Int) (D : Addr), Same H H3 → H3 L = some (.lst [V.int c]) → H3 D = none →
        ∃ W : Nat → Nat → Hp → Prop, (∃ m, W 0 m (upd H3 D (.lst []))) ∧ ∀ i m H4, W i m H4 → ((Itl K L).stop i H4 ∧ Q (.ref D) H4) ∨ ((Itl K L).go i H4 ∧ ∃ Nx : Hp → Prop, (∀ H', Nx H' → ∃ m', m' < m ∧ W (i + 1) m' H') ∧ ∀ x H', (Itl K L).yld i H4 x H' →
          gName 3 x (wipe [some (V.ref a), some (V.int 1), some (V.ref L), none] [3]) H' fun σ2 H2 => wipe σ2 [3] = wipe [some (V.ref a), some (V.int 1), some (V.ref L), none] [3] ∧ tYes σ2 H2 fun b H3 => if b = true then tCall spDice [] E0 (tCons (tVar 3) tNil) σ2 H3 fun y H4 => ∃ acc, H4 D = some (.lst acc) ∧ acc.length < sizeLine ∧ Nx (upd H4 D (.lst (acc ++ [y]))) else Nx H3) := by
      intro H3 L c D s3 hL nD
      refine lc_it (walk_list (xs := [V.int c])) (fun i H4 => Same H3 H4 ∧ ((i = 0 ∧ H4 D = some (.lst [])) ∨ ∃ (d : Addr) (G : Hp), Same H3 G ∧ Same G H4 ∧ G d = none ∧ D3 H4 d ∧ D ≠ d ∧ i = 1 ∧ H4 D = some (.lst [.ref d]))) ⟨same_upd nD, .inl ⟨rfl, upd_same⟩⟩ (fun i H4 _ p => SqL.of (p.1 _ _ hL)) (fun i x H4 H5 hi p y => ?_) (fun H4 p => ?_)
      · obtain ⟨s4, p⟩ := p
        have hi : i < 1 := hi
        rcases p with ⟨rfl, hD⟩ | ⟨_, _, _, _, _, _, _, z, _⟩
        · obtain ⟨rfl, hx⟩ := y
          have hx : x = V.int c := (Option.some.inj hx).symm
          subst hx
          refine ⟨rfl, tyes ?_⟩
          refine ⟨_, rfl, c, rfl, fun p x y z np => ?_⟩
          have Dp : D ≠ p := ne_of_none hD np
          refine ⟨[], by rw [upd_ne Dp]; exact hD, Nat.zero_lt_succ _, Same.up (s4.trans (same_upd np)) nD, .inr ⟨p, wo H5 D, same_wo s4 nD, ?_, ?_, ⟨x, y, z, by rw [upd_ne (Ne.symm Dp), upd_same]⟩, Dp, rfl, by rw [upd_same]; rfl⟩⟩
          · exact Same.up ((wo_same H5 D).trans (same_upd np)) (wo_self _ _)
          · rw [wo_ne (Ne.symm Dp)]; exact np
        · omega
      · obtain ⟨s4, p⟩ := p
        rcases p with ⟨z, _⟩ | ⟨d, G, sG, sG4, nd0, hd, Dd, _, hD⟩
        · cases z
        · exact k D d G H4 (s3.trans sG) sG4 nd0 hd hD Dd
    refine ⟨_, rfl, _, rfl, _, rfl, a, _, rfl, ha, fun L nL => ?_⟩
    have cut : cutV (ns.map V.int) none (some 1) = (ns.take 1).map V.int := by
      unfold cutV
      have e1 : HT.sIx (ns.map V.int).length 0 none = 0 := rfl
      have e2 : HT.sIx (ns.map V.int).length (ns.map V.int).length (some 1) = min 1 (ns.map V.int).length := HT.sIx_nat _ _ 1
      rw [e1, e2, List.drop_zero, Nat.sub_zero, List.map_take]
      cases ns with
      | nil => rfl
      | cons x r => rfl
    rw [cut]
    have q1 := same_upd (o := .lst ((ns.take 1).map V.int)) nL
    have hL : upd H L (.lst ((ns.take 1).map V.int)) L = some (.lst ((ns.take 1).map V.int)) := upd_same
    generalize upd H L (.lst ((ns.take 1).map V.int)) = H1 at *
    refine ⟨_, rfl, Nat.zero_le _, fun N1 nN1 => ?_⟩
    have q2 := same_upd (o := .lst []) nN1
    refine ⟨L, N1, ns.take 1, rfl, rfl, by rw [List.length_take]; omega, q2 _ _ hL, upd_same, _, rfl, ?_⟩
    have hL2 := q2 _ _ hL
    generalize upd H1 N1 (.lst []) = H2 at *
    cases ns with
    | nil =>
      refine iteD rfl ?_
      refine ⟨show 1 ≤ sizeLine by decide, fun L2 nL2 => ?_⟩
      have q3 := same_upd (o := .lst [V.int 0]) nL2
      have hL3 : upd H2 L2 (.lst [V.int 0]) L2 = some (.lst [V.int 0]) := upd_same
      refine ⟨_, rfl, L2, rfl, ⟨_, SqL.of hL3⟩, fun D nD => ?_⟩
      exact last _ L2 0 D ((q1.trans q2).trans q3) hL3 nD
    | cons c r =>
      refine iteDF (fun z => by cases z) ?_
      refine ⟨_, rfl, L, rfl, ⟨_, SqL.of hL2⟩, fun D nD => ?_⟩
      exact last _ L c D (q1.trans q2) hL2 nD
end
end Ck
/-! ## text L61M -/
set_option Elab.async false
set_option linter.all false
set_option maxRecDepth 100000
set_option maxHeartbeats 4000000
namespace Ck
open PySem PySem.Spec PyProof.Rows L2
theorem map_erase {α β : Type} (f : α → β) : ∀ (l : List α) (r : Nat), (l.map f).eraseIdx r = (l.eraseIdx r).map f
  | [], _ => rfl
  | a :: l, 0 => rfl
  | a :: l, r + 1 => by
    show f a :: (l.map f).eraseIdx r = f a :: (l.eraseIdx r).map f
    rw [map_erase f l r]
theorem cons_erase : ∀ (l : List Nat) (r : Nat) (h : r < l.length), (l[r] :: l.eraseIdx r).Perm l
  | a :: l, 0, _ => List.Perm.refl _
  | a :: l, r + 1, h => by
    have hl : r < l.length := Nat.lt_of_succ_lt_succ h
    have ih := cons_erase l r hl
    show (l[r] :: a :: l.eraseIdx r).Perm (a :: l)
    exact (List.Perm.swap a l[r] _).trans (ih.cons a)
/-- the dice at d, all else as it was -/
structure Di (G H : Hp) (d : Addr) : Prop where
  same : Same G H
  fresh : G d = none
  at_ : D3 H d
theorem Di.keep {G H H' : Hp} {d : Addr} (D : Di G H d) (s : Same H H') : Di G H' d := by
  obtain ⟨x, y, z, h⟩ := D.at_
  exact ⟨D.same.trans s, D.fresh, x, y, z, s _ _ h⟩
theorem Di.roll {G H : Hp} {d : Addr} (D : Di G H d) (x y z : Int) : Di G (upd H d (.lst [V.int x, V.int y, V.int z])) d := ⟨Same.up D.same D.fresh, D.fresh, x, y, z, upd_same⟩
theorem Di.wide {G H : Hp} {d : Addr} (D : Di G H d) : Di (wo H d) H d := ⟨wo_same _ _, wo_self _ _, D.at_⟩
theorem Di.back {G H H' : Hp} {d : Addr} (D : Di G H d) (D' : Di (wo H d) H' d) : Di G H' d := ⟨(same_wo D.same D.fresh).trans D'.same, D.fresh, D'.at_⟩
theorem Di.lst {G H : Hp} {d : Addr} (D : Di G H d) : ∃ xs, H d = some (.lst xs) := by
  obtain ⟨x, y, z, h⟩ := D.at_
  exact ⟨_, h⟩
section
variable {P : Program} {w : World} {K : PySem.W.Frag} {mg : Str → Option Value} {base : Heap}
def spFull : Sp := fun vs H Q _ => ∃ (G : Hp) (d : Addr) (many : Nat), vs = [.ref d, nv many] ∧ Di G H d ∧ 1 ≤ many ∧ many ≤ 50 ∧ ∀ (p : Addr) (H' : Hp) (fs : List Nat), Di G H' d → H' p = some (.tup (fs.map nv)) → Full fs many → Q (.ref p) H'
theorem sc_full : FnScope ["_law_dice_here", "_law_many", "_law_left", "_law_order", "_law_one"] ["_law_dice_here", "_law_many"] (defScope dFull) := ⟨rfl, rfl, rfl, by decide +kernel, rfl, by decide +kernel, by decide +kernel⟩
theorem g_full (T : Tx K mg) (GR : GDef P w K mg base "_law_roll" 1 ["_law_dice_here", "_law_many"] spRoll) : GDef P w K mg base "_law_full" 2 ["_law_dice_here", "_law_many"] spFull := by
  refine gdef (st := dFull) T (by unfold fn defs1 defs2 defs3; simp) (by unfold faG; simp) sc_full (fun vs H Q E h => ?_) (fun _ _ _ _ _ _ us hl => match us, hl with | [_, _], _ => rfl) (fun f cdv A outer s H vs Q E ec hr h => ?_)
  · obtain ⟨G, d, many, rfl, _⟩ := h
    rfl
  · obtain ⟨G, d, many, rfl, D, m1, m50, k⟩ := h
    have nd := sc_full.nd
    refine ⟨_, pss_cons (ps_par (i := 2) (j := 3) rfl nd rfl rfl (by decide) rfl rfl (pa_cons (pe_listRg rfl (by rfl) T.list (prg_1 (by rfl) T.range (pv 1))) (pa_cons (pe_lst pa_nil) pa_nil)) rfl)
      (pss_cons (ps_while PassesOwn.never (pt_cmpR (op_neNil hr.units) (pv 2) (pe_lst pa_nil) (nomark _))
        (pss_cons (ps_set (i := 4) nd rfl (.inl rfl) (pe_ix ix_seq (pv 2) (pe_g GR hr (by rfl) (pa_cons (pv 0) (pa_cons (pe_callB call_lenE (by rfl) T.len PySem.boot_len (pa_cons (pv 2) pa_nil)) pa_nil))) (fun _ _ => rfl)))
        (pss_cons (ps_expr (pe_bm PySem.F.plainAttrs_list PySem.F.slot_list_append PySem.F.type_list_append mt_append (pv 3) (pa_cons (pv 4) pa_nil)))
        (pss_one (ps_expr (pe_bm PySem.F.plainAttrs_list PySem.F.slot_list_remove PySem.F.type_list_remove mt_remove (pv 2) (pa_cons (pv 4) pa_nil)))))))
      (pss_one (ps_ret (pe_tupleOf (by rfl) T.tuple (pv 3))))), ?_⟩
    refine ⟨_, rfl, _, rfl, ⟨by omega, by omega, by omega, by omega, by omega⟩, fun L nL => ⟨Nat.zero_le _, fun O nO => ⟨_, _, rfl, ?_⟩⟩⟩
    rw [rgV_nat] at nO ⊢
    have q1 := same_upd (o := .lst ((List.range many).map nv)) nL
    have hL : upd H L (.lst ((List.range many).map nv)) L = some (.lst ((List.range many).map nv)) := upd_same
    generalize upd H L (.lst ((List.range many).map nv)) = H1 at *
    have q2 := same_upd (o := .lst []) nO
    have hO : upd H1 O (.lst []) O = some (.lst []) := upd_same
    have OL : O ≠ L := Ne.symm (ne_of_none hL nO)
    have hL2 := q2 _ _ hL
    generalize upd H1 O (.lst []) = H2 at *
    have nOH : H O = none := q1.free nO
    have dL : d ≠ L := by
      obtain ⟨xs, hx⟩ := D.lst
      exact ne_of_none hx nL
    have dO : d ≠ O := by
      obtain ⟨xs, hx⟩ := D.lst
      exact ne_of_none hx nOH
    have nLG : G L = none := D.same.free nL
    have nOG : G O = none := D.same.free nOH
    refine ⟨fun m σ H3 => ∃ (left order : List Nat) (x4 : Option V), m = left.length ∧ σ = [some (.ref d), some (nv many), some (.ref L), some (.ref O), x4] ∧ Di G H3 d ∧ H3 L = some (.lst (left.map nv)) ∧ H3 O = some (.lst (order.map nv)) ∧ (order ++ left).Perm (List.range many),
      ⟨_, List.range many, [], _, rfl, rfl, D.keep (q1.trans q2), hL2, hO, List.Perm.refl _⟩, ?_⟩
    rintro m σ H3 ⟨left, order, x4, rfl, rfl, D3', hL3, hO3, perm⟩
    have len : order.length + left.length = many := by
      have := perm.length_eq
      rw [List.length_append, List.length_range] at this
      exact this
    refine ⟨_, rfl, Nat.zero_le _, fun N1 nN1 => ?_⟩
    have q3 := same_upd (o := .lst []) nN1
    refine ⟨L, N1, left, rfl, rfl, q3 _ _ hL3, upd_same, _, rfl, ?_⟩
    have D4 := D3'.keep q3
    have hL4 := q3 _ _ hL3
    have hO4 := q3 _ _ hO3
    generalize upd H3 N1 (.lst []) = H4 at *
    by_cases c : left = []
    · refine iteNS c ?_
      subst c
      rw [List.append_nil] at perm
      refine ⟨_, rfl, .inl ⟨O, _, rfl, SqL.of hO4, fun p np => ?_⟩⟩
      refine k p _ order (D4.keep (same_upd np)) upd_same ⟨?_, fun g hg => List.mem_range.mp (perm.mem_iff.mp hg), perm.nodup_iff.mpr List.nodup_range⟩
      have := perm.length_eq
      rw [List.length_range] at this
      exact this
    · refine iteNT c ?_
      have lpos : 1 ≤ left.length := List.length_pos_iff.mpr c
      refine ⟨_, fun σ' H' q => ⟨left.length - 1, by omega, q⟩, ?_⟩
      refine ⟨_, rfl, _, rfl, _, rfl, L, _, nv left.length, rfl, .inl (SqL.of hL4), by rw [List.length_map]; rfl, d, left.length, rfl, D4.at_, lpos, by omega, fun r x y z hr => ?_⟩
      have D5 := D4.roll x y z
      have hL5 : upd H4 d (.lst [V.int x, V.int y, V.int z]) L = some (.lst (left.map nv)) := by rw [upd_ne (Ne.symm dL)]; exact hL4
      have hO5 : upd H4 d (.lst [V.int x, V.int y, V.int z]) O = some (.lst (order.map nv)) := by rw [upd_ne (Ne.symm dO)]; exact hO4
      generalize upd H4 d (.lst [V.int x, V.int y, V.int z]) = H5 at *
      refine .inl ⟨L, _, _, _, rfl, rfl, SqL.of hL5, at_nv hr, ?_⟩
      refine ⟨_, rfl, .inl ⟨rfl, _, SqL.of hO5⟩, _, rfl, O, _, _, rfl, rfl, hO5, small (by rw [List.length_map]; omega), ?_⟩
      have D6 : Di G (upd H5 O (.lst (order.map nv ++ [nv (at0 left r)]))) d := by
        obtain ⟨x', y', z', hd⟩ := D5.at_
        exact ⟨Same.up D5.same nOG, D5.fresh, x', y', z', by rw [upd_ne dO]; exact hd⟩
      have hL6 : upd H5 O (.lst (order.map nv ++ [nv (at0 left r)])) L = some (.lst (left.map nv)) := by rw [upd_ne (Ne.symm OL)]; exact hL5
      have hO6 : upd H5 O (.lst (order.map nv ++ [nv (at0 left r)])) O = some (.lst ((order ++ [at0 left r]).map nv)) := by rw [upd_same, List.map_append]; rfl
      generalize upd H5 O (.lst (order.map nv ++ [nv (at0 left r)])) = H6 at *
      have ndl : left.Nodup := (List.nodup_append.mp (perm.nodup_iff.mpr List.nodup_range)).2.1
      have hL6' : H6 L = some (.lst ((left.map fun (n : Nat) => (n : Int)).map V.int)) := by rw [hL6, List.map_map]; rfl
      refine ⟨_, rfl, .inl ⟨rfl, _, SqL.of hL6⟩, _, rfl, L, _, _, r, rfl, rfl, hL6', by rw [List.getElem?_map, at0_get hr]; rfl, fun m hm z => ?_, ?_⟩
      · rw [List.getElem?_map, at0_get (by omega)] at z
        have z1 : ((at0 left m : Nat) : Int) = ((at0 left r : Nat) : Int) := Option.some.inj z
        have z2 : at0 left m = at0 left r := by omega
        rw [← at0_eq (by omega : m < left.length), ← at0_eq hr] at z2
        exact (List.pairwise_iff_getElem.mp ndl m r (by omega) hr hm) z2
      · refine ⟨left.eraseIdx r, order ++ [at0 left r], _, by rw [List.length_eraseIdx, if_pos hr], rfl, ?_, ?_, ?_, ?_⟩
        · obtain ⟨x', y', z', hd⟩ := D6.at_
          exact ⟨Same.up D6.same nLG, D6.fresh, x', y', z', by rw [upd_ne dL]; exact hd⟩
        · rw [upd_same, map_erase, List.map_map]
          rfl
        · rw [upd_ne OL]; exact hO6
        · refine List.Perm.trans ?_ perm
          rw [List.append_assoc]
          refine List.Perm.append_left order ?_
          rw [← at0_eq hr]
          exact cons_erase left r hr
/-! ### a part of it -/
def spPart : Sp := fun vs H Q _ => ∃ (G : Hp) (d : Addr) (many : Nat), vs = [.ref d, nv many] ∧ Di G H d ∧ 1 ≤ many ∧ many ≤ 50 ∧ ∀ (p : Addr) (H' : Hp) (ps : List (Option Nat)), Di G H' d → H' p = some (.tup (ps.map ov)) → Valid ps many → Q (.ref p) H'
theorem sc_part : FnScope ["_law_dice_here", "_law_many", "_law_gate"] ["_law_dice_here", "_law_many"] (defScope dPart) := ⟨rfl, rfl, rfl, by decide +kernel, rfl, by decide +kernel, by decide +kernel⟩
theorem g_part (T : Tx K mg) (GR : GDef P w K mg base "_law_roll" 1 ["_law_dice_here", "_law_many"] spRoll) (GF : GDef P w K mg base "_law_full" 2 ["_law_dice_here", "_law_many"] spFull) : GDef P w K mg base "_law_part" 3 ["_law_dice_here", "_law_many"] spPart := by
  refine gdef (st := dPart) T (by unfold fn defs1 defs2 defs3; simp) (by unfold faG; simp) sc_part (fun vs H Q E h => ?_) (fun _ _ _ _ _ _ us hl => match us, hl with | [_, _], _ => rfl) (fun f cdv A outer s H vs Q E ec hr h => ?_)
  · obtain ⟨G, d, many, rfl, _⟩ := h
    rfl
  · obtain ⟨G, d, many, rfl, D, m1, m50, k⟩ := h
    have nd := sc_part.nd
    refine ⟨_, pss_one (ps_ret (pe_tupleOf (by rfl) T.tuple (pe_lc (own := [("_law_gate", 2)]) (g := gName 2) (tt := tYes) rfl nd (pi_tup (pe_g GF hr (by rfl) (pa_cons (pv 0) (pa_cons (pv 1) pa_nil))))
      (blkOk_by (N := ["_law_dice_here", "_law_many", "_law_gate"]) (sc := defScope dPart) (own := [("_law_gate", 2)]) (by decide +kernel)) (fun _ _ _ _ _ => pg_name (i := 2) nd rfl (Or.inl rfl)) (fun _ _ _ _ _ => pts_nil)
      (fun _ _ _ _ _ => pe_ifExp (pt_cmpR op_eq (pe_g GR (hr.mono (by decide)) (by rfl) (pa_cons (pv 0) (pa_cons pe_int pa_nil))) pe_int (nomark _)) pe_non (pv 2))))), ?_⟩
    refine ⟨_, rfl, _, rfl, wo H d, d, many, rfl, D.wide, m1, m50, fun pf H1 fs D1 hpf F => ?_⟩
    have D1 := D.back D1
    have pd : pf ≠ d := by
      obtain ⟨xs, hx⟩ := D1.lst
      exact fun z => by rw [z, hx] at hpf; cases hpf
    refine ⟨pf, rfl, ⟨_, SqT.of hpf⟩, fun L nL => ?_⟩
    have Ld : d ≠ L := by
      obtain ⟨xs, hx⟩ := D1.lst
      exact ne_of_none hx nL
    have pL : pf ≠ L := ne_of_none hpf nL
    have nLG : G L = none := D1.same.free nL
    refine lc_it (walk_tup (xs := fs.map nv)) (fun i H2 => Di G H2 d ∧ H2 pf = some (.tup (fs.map nv)) ∧ ∃ acc : List (Option Nat), H2 L = some (.lst (acc.map ov)) ∧ acc.length = i ∧ (acc.filterMap id).Sublist (fs.take i)) ⟨D1.keep (same_upd nL), by rw [upd_ne pL]; exact hpf, [], upd_same, rfl, List.Sublist.refl _⟩ (fun i H2 _ p => SqT.of p.2.1) (fun i x H2 H3 hi p y => ?_) (fun H2 p => ?_)
    · obtain ⟨D2, hp2, acc, hL, la, sub⟩ := p
      obtain ⟨rfl, hx⟩ := y
      obtain ⟨hi', rfl⟩ := nv_get' hx
      have tk : fs.take (i + 1) = fs.take i ++ [fs[i]] := by rw [List.take_add_one, List.getElem?_eq_getElem hi']; rfl
      have lfs := F.len
      refine ⟨rfl, tyes ?_⟩
      refine ⟨_, rfl, d, 3, rfl, D2.at_, by decide, by decide, fun r x y z hr => ?_⟩
      have D3 := D2.roll x y z
      have hp3 : upd H3 d (.lst [V.int x, V.int y, V.int z]) pf = some (.tup (fs.map nv)) := by rw [upd_ne pd]; exact hp2
      have hL3 : upd H3 d (.lst [V.int x, V.int y, V.int z]) L = some (.lst (acc.map ov)) := by rw [upd_ne (Ne.symm Ld)]; exact hL
      generalize upd H3 d (.lst [V.int x, V.int y, V.int z]) = H4 at *
      have fin : ∀ e : Option Nat, ((acc ++ [e]).filterMap id).Sublist (fs.take (i + 1)) → ∃ a, H4 L = some (.lst a) ∧ a.length < sizeLine ∧ (Di G (upd H4 L (.lst (a ++ [ov e]))) d ∧ upd H4 L (.lst (a ++ [ov e])) pf = some (.tup (fs.map nv)) ∧
          ∃ acc : List (Option Nat), upd H4 L (.lst (a ++ [ov e])) L = some (.lst (acc.map ov)) ∧ acc.length = i + 1 ∧ (acc.filterMap id).Sublist (fs.take (i + 1))) := by
        intro e hs
        obtain ⟨x', y', z', hd⟩ := D3.at_
        exact ⟨_, hL3, small (by rw [List.length_map]; omega), ⟨Same.up D3.same nLG, D3.fresh, x', y', z', by rw [upd_ne Ld]; exact hd⟩, by rw [upd_ne pL]; exact hp3, acc ++ [e], by rw [upd_same, List.map_append]; rfl, by rw [List.length_append, la]; rfl, hs⟩
      refine ⟨rfl, _, rfl, ?_⟩
      by_cases c : V.int (r : Int) = V.int 0
      · refine iteD c ?_
        refine fin none ?_
        rw [List.filterMap_append, tk]
        show (acc.filterMap id ++ []).Sublist _
        rw [List.append_nil]
        exact sub.trans (List.sublist_append_left _ _)
      · refine iteDF c ?_
        refine ⟨_, rfl, fin (some fs[i]) ?_⟩
        rw [List.filterMap_append, tk]
        exact sub.append (List.Sublist.refl _)
    · obtain ⟨D2, hp2, acc, hL, la, sub⟩ := p
      refine .inl ⟨L, _, rfl, SqL.of hL, fun p np => ?_⟩
      refine k p _ acc (D2.keep (same_upd np)) upd_same ⟨?_, fun g hg => ?_, ?_⟩
      · rw [la, List.length_map, F.len]
      · refine F.lt g (List.mem_of_mem_take (sub.subset (mem_fm.mpr hg)))
      · exact (sub.trans (List.take_sublist _ _)).nodup F.nd
end
end Ck
/-! ## text L61N -/
set_option Elab.async false
set_option linter.all false
set_option maxRecDepth 100000
set_option maxHeartbeats 4000000
namespace Ck
open PySem PySem.Spec PyProof.Rows L2 L2.DX Srt
/-! ### sorted(d.items()), keys and values whole numbers -/
theorem zip_fst {α β γ : Type} (f : α → γ) : ∀ (as : List α) (ks : List β), as.length = ks.length → (as.zip ks).map (fun z => f z.1) = as.map f
  | [], _, _ => rfl
  | a :: as, [], h => by simp at h
  | a :: as, k :: ks, h => by
    have h2 : as.length = ks.length := by simpa using h
    show f a :: (as.zip ks).map _ = f a :: as.map f
    rw [zip_fst f as ks h2]
section
variable {X : Cx}
def rItemsK : V → List V → Hp → VK → Prop := fun x xs H Q => ∃ (a : Addr) (kvs : List (Key × V)), x = .ref a ∧ xs = [] ∧ H a = some (.dK kvs) ∧ ∀ p, H p = none → Q (.ref p) (upd H p (itemsO p a))
theorem mt_itemsK : MtR X "dict.items" rItemsK := by
  intro pins s σ H x xs v us Q I rx rxs h
  obtain ⟨a, kvs, rfl, rfl, ha, q⟩ := h
  cases rx
  cases rxs
  obtain ⟨z, hd, vs, kv, dd⟩ := dk_of I.hok ha
  obtain ⟨o, es, ep, ho, hc, hdat, _⟩ := dd
  refine DT.callItems (es := es) (ep := ep) hd ⟨o, ho, hc, hdat⟩ ?_
  have hf : H s.heap.objs.size = none := I.hok.fresh (Nat.le_refl _)
  exact ⟨.ref s.heap.objs.size, upd H s.heap.objs.size (itemsO s.heap.objs.size a), I.laid (t' := s.toks) (fun b u e => Heap.get?_push_of_some _ e) (Nat.le_refl _) (itemsO_ok (Heap.get?_push_size _ rfl)), rfl, q _ hf⟩
def rSortII : List V → Hp → VK → Prop := fun vs H Q => ∃ (p a : Addr) (es : List (Int × Int)), vs = [.ref p] ∧ H p = some (itemsO p a) ∧ H a = some (.dK (es.map fun e => ((Sum.inl e.1 : Key), V.int e.2))) ∧
  ∀ (H' : Hp) (l : Addr) (zs : List (Addr × Int × Int)), Same H H' → (zs.map (·.2)).Perm es → (zs.map (·.2)).Pairwise (fun e f => e.1 ≤ f.1) → H' l = some (.lst (zs.map fun z => V.ref z.1)) → (∀ z ∈ zs, H' z.1 = some (.tup [V.int z.2.1, V.int z.2.2])) → Q (.ref l) H'
theorem cr_sortedII (hc : X.calm = true) : CallR X (.builtin "sorted") rSortII := by
  intro pins s σ H xs us Q I r h
  obtain ⟨p, a, ks, rfl, hp, ha, q⟩ := h
  obtain rfl := Vals.ref1 r
  have view : s.heap.IsItemsView p a := (show ObjOk X.prog X.w H s.heap p (itemsO p a) from I.hok p _ hp).1
  obtain ⟨z, hd, vs, kv, dd⟩ := dk_of I.hok ha
  have lkv : (ks.map fun e => ((Sum.inl e.1 : Key), V.int e.2)).length = vs.length := Paired.length kv
  rw [List.length_map] at lkv z
  obtain ⟨o, es, ep, ho, hx, hdat, _, hprs, _⟩ := dd
  have les : es.size = vs.length := by rw [← hprs.length]; simp
  have hh : X.A.handled = none := I.ok.hd hc
  refine DT.sortedI (es := es) (ep := ep) hh view ⟨o, ho, hx, hdat⟩ (by omega) fun h' tk as hk hlt hl hG => ?_
  have lak : as.length = ks.length := by omega
  have nd : as.Nodup := List.Pairwise.imp (fun h => Nat.ne_of_lt h) hG.rise
  have pr : ∀ (j : Nat) (b : Addr), as[j]? = some b → ∃ (e : Int × Int) (t1 t2 : Tok), ks[j]? = some e ∧ h'.get? b = some { cls := .type "tuple", data := .seq #[Value.int e.1 t1, Value.int e.2 t2] } := by
    intro j b hj
    obtain ⟨en, he, hg⟩ := hG.pairs j b hj
    have hjl : j < as.length := (List.getElem?_eq_some_iff.mp hj).1
    have hv : vs[j]? = some vs[j] := List.getElem?_eq_getElem (by omega)
    have he2 : es.toList[j]? = some en := by rw [Array.getElem?_toList]; exact he
    obtain ⟨h1, h2⟩ := hprs.get? (k := vs[j].1) (v := vs[j].2) he2 hv
    have hke : ks[j]? = some ks[j] := List.getElem?_eq_getElem (by omega)
    have hkv : (ks.map fun e => ((Sum.inl e.1 : Key), V.int e.2))[j]? = some (Sum.inl ks[j].1, V.int ks[j].2) := by rw [List.getElem?_map, hke]; rfl
    obtain ⟨y, hy, e1, e2⟩ := paired_get kv hkv
    rw [hv] at hy
    obtain rfl := Option.some.inj hy
    have e1 : (Sum.inl ks[j].1 : Key) = vs[j].1 := e1
    have e2 : RelV (V.int ks[j].2) vs[j].2 := e2
    obtain ⟨t2, ev⟩ := e2
    have rk : RelV (kV vs[j].1) en.key := relV_key (show keyIs vs[j].1 en.key = true from h1)
    rw [← e1] at rk
    obtain ⟨t1, ek⟩ := rk
    rw [h2, ev] at hg
    rw [ek] at hg
    exact ⟨ks[j], t1, t2, hke, hg⟩
  have hob : (h'.push { cls := .type "list", data := .seq (as.map Value.ref).toArray }).get? h'.objs.size = some (seqObj "list" (as.map Value.ref).toArray 0) := Heap.get?_push_size _ rfl
  have kb : ∀ b o, s.heap.get? b = some o → (h'.push { cls := .type "list", data := .seq (as.map Value.ref).toArray }).get? b = some o := fun b o e => Heap.get?_push_of_some _ (hk b o e)
  have ne0 : ∀ b o, h'.get? b = some o → b ≠ h'.objs.size := fun b o e => Nat.ne_of_lt (Heap.lt_size e)
  generalize hh2 : h'.push { cls := .type "list", data := .seq (as.map Value.ref).toArray } = h2 at hob kb ⊢
  have ka : ∀ b o, h'.get? b = some o → h2.get? b = some o := fun b o e => by rw [← hh2]; exact Heap.get?_push_of_some _ e
  obtain ⟨k, hkk⟩ : ∃ k : Value → Int × Int, ∀ (j : Nat) (b : Addr) (e : Int × Int), as[j]? = some b → ks[j]? = some e → k (.ref b) = e := by
    refine ⟨fun v => @dite _ (∃ (j : Nat) (b : Addr) (e : Int × Int), v = .ref b ∧ as[j]? = some b ∧ ks[j]? = some e) (Classical.propDecidable _) (fun h => Classical.choose (Classical.choose_spec (Classical.choose_spec h))) (fun _ => (0, 0)), fun j b e h1 h2 => ?_⟩
    have hex : ∃ (j' : Nat) (b' : Addr) (e' : Int × Int), Value.ref b = .ref b' ∧ as[j']? = some b' ∧ ks[j']? = some e' := ⟨j, b, e, rfl, h1, h2⟩
    show @dite _ _ (Classical.propDecidable _) _ _ = e
    rw [dif_pos hex]
    have sp := Classical.choose_spec (Classical.choose_spec (Classical.choose_spec hex))
    generalize Classical.choose (Classical.choose_spec (Classical.choose_spec hex)) = e' at *
    generalize Classical.choose (Classical.choose_spec hex) = b' at *
    generalize Classical.choose hex = j' at *
    obtain ⟨x1, x2, x3⟩ := sp
    have eb : b = b' := Value.ref.inj x1
    subst eb
    have ej : j = j' := (List.getElem?_inj (List.getElem?_eq_some_iff.mp h1).1 nd).mp (h1.trans x2.symm)
    subst ej
    exact Option.some.inj (x3.symm.trans h2)
  have pin : ∀ v ∈ as.map Value.ref, IsPair h2 v (k v).1 (k v).2 := by
    intro v hv
    obtain ⟨b, hb, rfl⟩ := List.mem_map.mp hv
    obtain ⟨j, hj⟩ := List.mem_iff_getElem?.mp hb
    obtain ⟨e, t1, t2, he, hg⟩ := pr j b hj
    rw [hkk j b e hj he]
    exact ⟨b, _, t1, t2, 0, rfl, ka _ _ hg, rfl, rfl⟩
  refine wpAny_call_entry PyProof.Rows.slot_list_sort ⟨_, hob, rfl⟩ PyProof.Rows.entry_list_sort
    (SrtO.list_sort_ord (s := { s with heap := h2, toks := tk }) (SrtO.swo_lex k) hob (by rw [List.length_map, lak]; exact z) (fun h2' => SrtO.pairs_sortableO (s := { s with heap := h2, toks := tk }) (by omega) pin fun o e => ?_) fun out o1 o2 => ⟨.none, rfl, ?_⟩) (PyProof.Rows.args_list_sort _)
  · rw [hob] at e
    obtain rfl := Option.some.inj e
    intro c
    exact absurd (Value.type.inj c) (by decide)
  · show EP X pins σ Q (.ref h'.objs.size) { s with heap := sortedHeap h2 h'.objs.size (as.map Value.ref) out.toArray, toks := tk }
    have hp1 := o2.perm
    -- the addresses in order, each with its entry
    obtain ⟨zs, pz, ez⟩ : ∃ zs : List (Addr × Int × Int), zs.Perm (as.zip ks) ∧ zs.map (fun z => Value.ref z.1) = out := by
      have e0 : (as.zip ks).map (fun z => Value.ref z.1) = as.map Value.ref := zip_fst Value.ref as ks lak
      rw [← e0] at hp1
      obtain ⟨zs, p1, p2⟩ := perm_lift (fun z : Addr × Int × Int => Value.ref z.1) hp1 (as.zip ks) rfl
      exact ⟨zs, p1, p2⟩
    have idx : ∀ z ∈ zs, ∃ j : Nat, as[j]? = some z.1 ∧ ks[j]? = some z.2 := by
      intro z' hz'
      obtain ⟨j, hj⟩ := List.mem_iff_getElem?.mp (pz.mem_iff.mp hz')
      exact ⟨j, List.getElem?_zip_eq_some.mp hj⟩
    have hperm : (zs.map (·.2)).Perm ks := by
      have e := pz.map (·.2)
      have m2 : (as.zip ks).map (·.2) = ks := List.map_snd_zip (by rw [lak]; exact Nat.le_refl _)
      rw [m2] at e
      exact e
    have hsort : (zs.map (·.2)).Pairwise (fun e f => e.1 ≤ f.1) := by
      have o1' : out.Pairwise fun v u => SrtO.lexB (k u) (k v) = false := o1
      rw [← ez, List.pairwise_map] at o1'
      rw [List.pairwise_map]
      refine List.Pairwise.imp_of_mem (fun {x y} hx hy h => ?_) o1'
      obtain ⟨j, j1, j2⟩ := idx x hx
      obtain ⟨i, i1, i2⟩ := idx y hy
      rw [hkk j _ _ j1 j2, hkk i _ _ i1 i2] at h
      have := SrtO.lexB_no.mp h
      omega
    have kF : ∀ b o, b ≠ h'.objs.size → h2.get? b = some o → (sortedHeap h2 h'.objs.size (as.map Value.ref) out.toArray).get? b = some o := fun b o hb e => (PyProof.Rows.sortedHeap_old hb (Heap.lt_size e)).trans e
    have kS : ∀ b o, s.heap.get? b = some o → (sortedHeap h2 h'.objs.size (as.map Value.ref) out.toArray).get? b = some o := fun b o e => kF b o (ne0 _ _ (hk b o e)) (kb b o e)
    obtain ⟨eF, heF⟩ := PyProof.Rows.sortedHeap_at (vs := as.map Value.ref) (out := out.toArray) hob
    have I1 : Inv X pins σ H { s with heap := sortedHeap h2 h'.objs.size (as.map Value.ref) out.toArray, toks := tk } := I.kept (t' := tk) kS
    have hn0 : H h'.objs.size = none := I.hok.fresh (Nat.le_of_lt hlt)
    have hlen : (zs.map fun z => V.ref z.1).length ≤ sizeLine := by
      have e := hperm.length_eq
      rw [List.length_map] at e
      rw [List.length_map]
      omega
    have rv : Vals (zs.map fun z => V.ref z.1) out := by
      rw [← ez]
      exact vals_maps (fun z : Addr × Int × Int => V.ref z.1) (fun z => Value.ref z.1) zs fun _ _ => rfl
    have I2 : Inv X pins σ (upd H h'.objs.size (.lst (zs.map fun z => V.ref z.1))) { s with heap := sortedHeap h2 h'.objs.size (as.map Value.ref) out.toArray, toks := tk } :=
      I1.take (h' := sortedHeap h2 h'.objs.size (as.map Value.ref) out.toArray) (t' := tk) (fun b ob _ e => e) (I.fpOk (Nat.le_of_lt hlt) hn0) ⟨hlen, out, eF, rv, heF⟩
    obtain ⟨H2, I3, g, qt⟩ := takeT (P := fun b vs => ∃ (j : Nat) (e : Int × Int), as[j]? = some b ∧ ks[j]? = some e ∧ vs = [V.int e.1, V.int e.2]) I as _ I2 nd fun b hb => by
      obtain ⟨j, hj⟩ := List.mem_iff_getElem?.mp hb
      obtain ⟨e, t1, t2, he, hg⟩ := pr j b hj
      have hbl : s.heap.objs.size ≤ b := Nat.le_of_lt (hG.above b hb)
      refine ⟨hbl, ?_, [V.int e.1, V.int e.2], ⟨j, e, hj, he, rfl⟩, fun H3 => ⟨(by rw [sizeLine_eq]; show 2 ≤ 16777216; omega), [Value.int e.1 t1, Value.int e.2 t2], .cons ⟨_, rfl⟩ (.cons ⟨_, rfl⟩ .nil), ⟨_, kF _ _ (ne0 _ _ hg) (ka _ _ hg), rfl, 0, rfl⟩⟩⟩
      rw [upd_ne (ne0 _ _ hg)]
      exact I.hok.fresh hbl
    have gr : ∀ b o, H b = some o → H2 b = some o := fun b o e => g b o (by rw [upd_ne (ne_of_none e hn0)]; exact e)
    refine ⟨.ref h'.objs.size, H2, I3, rfl, q H2 h'.objs.size zs gr hperm hsort (g _ _ upd_same) fun z' hz' => ?_⟩
    obtain ⟨i, i1, i2⟩ := idx z' hz'
    obtain ⟨vs', ⟨j, e, j1, j2, ev⟩, hH⟩ := qt z'.1 (List.mem_of_getElem? i1)
    have eij : i = j := (List.getElem?_inj (List.getElem?_eq_some_iff.mp i1).1 nd).mp (i1.trans j1.symm)
    subst eij
    have ee : e = z'.2 := Option.some.inj (j2.symm.trans i2)
    rw [ev, ee] at hH
    exact hH
end
end Ck
/-! ## text L61O -/
set_option Elab.async false
set_option linter.all false
set_option maxRecDepth 100000
set_option maxHeartbeats 4000000
namespace Ck
open PySem PySem.Spec PyProof.Rows L2
section
variable {X : Cx}
def rDictTD (K : PySem.W.Frag) : List V → Hp → VK → Prop := fun xs H Q => ∃ (a : Addr) (ps : List Addr) (es : List (List Key × Addr × V)), xs = [.ref a] ∧ SqL K H a (ps.map V.ref) ∧ (es.map (·.1)).Nodup ∧
  Paired (fun p (e : List Key × Addr × V) => H p = some (.tup [.ref e.2.1, e.2.2]) ∧ H e.2.1 = some (.tup (e.1.map kV))) ps es ∧ ∀ d, H d = none → Q (.ref d) (upd H d (.dT (es.map fun e => (e.1, e.2.2))))
theorem ents_of {pins : List (Addr × Obj)} {σ : L2.St} {H : Hp} {s : Shared} (I : Inv X pins σ H s) : ∀ {ps : List Addr} {es : List (List Key × Addr × V)}, Paired (fun p (e : List Key × Addr × V) => H p = some (.tup [.ref e.2.1, e.2.2]) ∧ H e.2.1 = some (.tup (e.1.map kV))) ps es →
    ∃ xs : List (List Key × Addr × Value), Paired (fun (p : List Key × V) q => p.1 = q.1 ∧ H q.2.1 = some (.tup (p.1.map kV)) ∧ RelV p.2 q.2.2) (es.map fun e => (e.1, e.2.2)) xs ∧ xs.length = ps.length ∧ xs.map (·.1) = es.map (·.1) ∧
      ∀ (j : Nat) (x : List Key × Addr × Value), xs[j]? = some x → ∃ p, ps[j]? = some p ∧ s.heap.IsTuple p #[Value.ref x.2.1, x.2.2]
  | _, _, .nil => ⟨[], .nil, rfl, rfl, fun j q e => by simp at e⟩
  | _, _, .cons (a := p) (b := e) h t => by
    obtain ⟨xs, r, hl, hk, hp⟩ := ents_of I t
    obtain ⟨h1, h2⟩ := h
    obtain ⟨its, rv, ht, _⟩ := I.tuple (SqT.of h1)
    obtain ⟨u, y, ei, ru, ry⟩ := vals2 rv
    obtain rfl : u = .ref e.2.1 := ru
    subst ei
    refine ⟨(e.1, e.2.1, y) :: xs, .cons ⟨rfl, h2, ry⟩ r, by rw [List.length_cons, List.length_cons, hl], by rw [List.map_cons, List.map_cons, hk], fun j q ej => ?_⟩
    cases j with
    | zero =>
      have e' : (e.1, e.2.1, y) = q := Option.some.inj ej
      subst e'
      exact ⟨p, rfl, ht⟩
    | succ j =>
      obtain ⟨b, e1, e2⟩ := hp j q (by simpa using ej)
      exact ⟨b, by simpa using e1, e2⟩
theorem call_dictTD (hr : X.A.units + 64 < cLine) (hcalm : X.calm = true) : CallR X (.type "dict") (rDictTD X.K) := by
  intro pins s σ H xs us Q I r q
  obtain ⟨a, ps, es, ex, hq, hnd, hp, q⟩ := q
  subst ex
  obtain ⟨u, eu, rx⟩ := vals1 r
  subst eu
  cases rx
  obtain ⟨its, rv, pl, hz⟩ := I.list hq
  have ei := refs_at rv
  subst ei
  rw [List.length_map] at hz
  obtain ⟨ys, rel, hl, hk, hpr⟩ := ents_of I hp
  obtain ⟨o, n, ho, hc, hd, hdat⟩ := pl
  have ndy : (ys.map (·.1)).Nodup := by rw [hk]; exact hnd
  have ins : ∀ x ∈ ys, H x.2.1 = some (.tup (x.1.map kV)) := by
    intro x hx
    obtain ⟨j, hj⟩ := List.mem_iff_getElem?.mp hx
    have hlen : ((es.map fun e => (e.1, e.2.2))).length = ys.length := Paired.length rel
    have hjl := (List.getElem?_eq_some_iff.mp hj).1
    obtain ⟨y, hy, h1, h2, _⟩ := paired_get rel (List.getElem?_eq_getElem (by omega : j < (es.map fun e => (e.1, e.2.2)).length))
    rw [hj] at hy
    obtain rfl := Option.some.inj hy
    rw [h1] at h2
    exact h2
  have lp : (ys.map fun x => (Value.ref x.2.1, x.2.2)).length = ys.length := List.length_map ..
  refine call_dict_pairsH (knd := tupleKind (mixKind X.prog X.w)) (ps := ys) (PairArg.list a (ps.map Value.ref).toArray (fun j => ps.getD j 0) (ys.map fun x => (Value.ref x.2.1, x.2.2))) (I.ok.hd hcalm) (tupleKind_room_in1 (A := X.A.in1) (by show X.A.units + 1 + 1 < cLine; omega))
    ⟨⟨o, n, ho, hc, hd, hdat⟩, by rw [lp]; simp [hl], fun j k v hj => ?_⟩ ⟨lp.symm, fun i key v hrel => ?_⟩ (fun h' hkk x hx => ?_) (by rw [lp, hl]; exact hz) fun h' tk hd' hkk => ?_
  · rw [List.getElem?_map] at hj
    obtain ⟨x, hx, e2⟩ := Option.map_eq_some_iff.mp hj
    obtain ⟨p, hp1, hp2⟩ := hpr j x hx
    have e3 : Value.ref x.2.1 = k := congrArg Prod.fst e2
    have e4 : x.2.2 = v := congrArg Prod.snd e2
    have eg : ps.getD j 0 = p := by rw [List.getD_eq_getElem?_getD, hp1]; rfl
    refine ⟨?_, .inl ?_⟩
    · show (ps.map Value.ref).toArray[j]? = some (Value.ref (ps.getD j 0))
      rw [eg]
      simp [hp1]
    · show s.heap.IsTuple (ps.getD j 0) #[k, v]
      rw [eg, ← e3, ← e4]
      exact hp2
  · have hrel : (ys.map fun x => (Value.ref x.2.1, x.2.2))[i]? = some (key, v) := hrel
    rw [List.getElem?_map] at hrel
    obtain ⟨x, hx, e2⟩ := Option.map_eq_some_iff.mp hrel
    have e3 : Value.ref x.2.1 = key := congrArg Prod.fst e2
    have e4 : x.2.2 = v := congrArg Prod.snd e2
    exact ⟨x.1, x.2.1, by rw [hx, ← e4], e3.symm⟩
  · obtain ⟨ov, iv, nv', hov, r1, r2, r3⟩ := (show IsTupleKey (mixKind X.prog X.w) s.heap x.1 x.2.1 from key_of I.hok (ins x hx))
    exact ⟨ov, iv, nv', hkk _ _ (Nat.ne_of_lt (Heap.lt_size hov)) (fun z => nomatch z) hov, r1, r2, r3⟩
  · rw [storedAllH_nil_of_nodup ys ndy] at hd'
    have k0 : ∀ b o, s.heap.get? b = some o → h'.get? b = some o := fun b o e => hkk b o (fun z => nomatch z) e
    have hm : (s.heap.objs.size == sysModules) = false := beq_eq_false_iff_ne.mpr (Nat.ne_of_gt I.big)
    have hf : H s.heap.objs.size = none := I.hok.fresh (Nat.le_refl _)
    have hlen : (es.map fun e => (e.1, e.2.2)).length ≤ sizeLine := by
      rw [show (es.map fun e => (e.1, e.2.2)).length = ys.length from Paired.length rel, hl]
      exact hz
    obtain ⟨o', es', ep', hq', h2, h3, h4, _, h5⟩ := hd'
    have kt : KT (upd H s.heap.objs.size (.dT (es.map fun e => (e.1, e.2.2)))) (es.map fun e => (e.1, e.2.2)) ys := KT.keeps rel fun c zs ec => by rw [upd_ne (ne_of_none ec hf)]; exact ec
    exact ⟨.ref s.heap.objs.size, upd H s.heap.objs.size (.dT (es.map fun e => (e.1, e.2.2))), I.laid (t' := tk) k0 (Nat.le_refl _) (show ObjOk X.prog X.w _ _ _ (.dT (es.map fun e => (e.1, e.2.2))) from ⟨hlen, hm, ys, kt, o', es', ep', hq', h2, h3, h4, h5⟩), rfl, q _ hf⟩
end
end Ck
/-! ## text K61T -/
set_option Elab.async false
set_option linter.all false
set_option maxRecDepth 100000
set_option maxHeartbeats 4000000
namespace Ck
/-! ### the way through the net -/
theorem crs_div (b p : Nat) : crs b p / 2 = p / 2 := by
  unfold crs
  split
  · exact pt_div p
  · rfl
theorem crs_inj {b p q : Nat} (e : crs b p = crs b q) : p = q := by
  unfold crs at e
  split at e
  · rw [← pt_pt p, ← pt_pt q, e]
  · exact e
theorem way_full {n : Nat} {rows ss : List (List Nat)} (ok : NetOk n rows) : ∀ i, i < rows.length → Full ((List.range n).map fun g => wayP rows ss g i) n := by
  intro i hi
  refine Full.of (by rw [List.length_map, List.length_range]) (fun g h => by rw [at0_map h]; exact wayP_lt ok h i hi) fun a b ha hb e => ?_
  rw [at0_map ha, at0_map hb] at e
  revert e
  induction i with
  | zero => exact fun e => (ok.full _ (getD_mem hi)).inj ha hb e
  | succ i ih =>
    intro e
    have la := wayP_lt (ss := ss) ok ha i (by omega)
    have lb := wayP_lt (ss := ss) ok hb i (by omega)
    have e2 := (ok.full _ (getD_mem hi)).inj (crs_lt la ok.even) (crs_lt lb ok.even) e
    have d : wayP rows ss a i / 2 = wayP rows ss b i / 2 := by
      have := congrArg (· / 2) e2
      simp only [crs_div] at this
      exact this
    rw [d] at e2
    exact ih (by omega) (crs_inj e2)
theorem getD_map_dbl (R : List (List Nat)) (i : Nat) : (R.map dbl).getD i [] = dbl (R.getD i []) := by
  rw [List.getD_eq_getElem?_getD, List.getElem?_map, List.getD_eq_getElem?_getD]
  cases R[i]? <;> rfl
theorem app3_0 {α : Type} {a d : α} {A C : List α} : ([a] ++ A ++ C).getD 0 d = a := rfl
theorem rowsN_0 (n : Nat) (R : List (List Nat)) : (rowsN n R).getD 0 [] = List.range n := rfl
theorem rowsN_1 (n : Nat) (R : List (List Nat)) : (rowsN n R).getD 1 [] = (outN n).map (at0 (dbl (R.getD 0 []))) := by
  show (outN n).map (at0 ((R.map dbl).getD 0 [])) = _
  rw [getD_map_dbl]
theorem rowsN_mid {n i : Nat} {R : List (List Nat)} (h1 : 1 ≤ i) (h2 : i + 1 < R.length) : (rowsN n R).getD (i + 1) [] = dbl (R.getD i []) := by
  unfold rowsN
  rw [List.getD_eq_getElem?_getD, List.getElem?_append_left (by rw [List.length_append, List.length_take, List.length_drop, List.length_map]; show i + 1 < 2 + _; omega), List.getElem?_append_right (by show 2 ≤ i + 1; omega)]
  show ((((R.map dbl).drop 1).take ((R.map dbl).length - 2))[i + 1 - 2]?).getD [] = _
  rw [List.getElem?_take, if_pos (by rw [List.length_map]; omega), List.getElem?_drop, show 1 + (i + 1 - 2) = i by omega, ← List.getD_eq_getElem?_getD, getD_map_dbl]
theorem rowsN_last {n : Nat} {R : List (List Nat)} (h : 2 ≤ R.length) : (rowsN n R).getD R.length [] = (dbl (R.getD (R.length - 1) [])).map (at0 (invL (outN n) n)) := by
  unfold rowsN
  rw [List.getD_eq_getElem?_getD, List.getElem?_append_right (by rw [List.length_append, List.length_take, List.length_drop, List.length_map]; show 2 + _ ≤ _; omega)]
  have e : R.length - ([List.range n, (outN n).map (at0 ((R.map dbl).getD 0 []))] ++ ((R.map dbl).drop 1).take ((R.map dbl).length - 2)).length = 0 := by
    rw [List.length_append, List.length_take, List.length_drop, List.length_map]
    show R.length - (2 + _) = 0
    omega
  rw [e, List.length_map, getD_map_dbl]
  rfl
theorem rowsN_end {n : Nat} {R : List (List Nat)} (h : 2 ≤ R.length) : (rowsN n R).getD (R.length + 1) [] = List.range n := by
  unfold rowsN
  rw [List.getD_eq_getElem?_getD, List.getElem?_append_right (by rw [List.length_append, List.length_take, List.length_drop, List.length_map]; show 2 + _ ≤ _; omega)]
  have e : R.length + 1 - ([List.range n, (outN n).map (at0 ((R.map dbl).getD 0 []))] ++ ((R.map dbl).drop 1).take ((R.map dbl).length - 2)).length = 1 := by
    rw [List.length_append, List.length_take, List.length_drop, List.length_map]
    show R.length + 1 - (2 + _) = 1
    omega
  rw [e]
  rfl
theorem zs_mid {A B : List Nat} {s0 s1 : List (List Nat)} {i : Nat} (h0 : i < s0.length) (h1 : i < s1.length) : ([A] ++ List.zipWith (fun a b => a ++ b) s0 s1 ++ [B]).getD (i + 1) [] = s0.getD i [] ++ s1.getD i [] := by
  rw [List.getD_eq_getElem?_getD, List.getElem?_append_left (by rw [List.length_append, List.length_zipWith]; show i + 1 < 1 + _; omega), List.getElem?_append_right (by show 1 ≤ i + 1; omega)]
  show ((List.zipWith (fun a b => a ++ b) s0 s1)[i + 1 - 1]?).getD [] = _
  rw [show i + 1 - 1 = i by omega, List.getElem?_zipWith, getD_get h0, getD_get h1]
  rfl
theorem zs_last {A B : List Nat} {s0 s1 : List (List Nat)} {L : Nat} (h0 : s0.length = L) (h1 : s1.length = L) : ([A] ++ List.zipWith (fun a b => a ++ b) s0 s1 ++ [B]).getD (L + 1) [] = B := by
  rw [List.getD_eq_getElem?_getD, List.getElem?_append_right (by rw [List.length_append, List.length_zipWith]; show 1 + _ ≤ _; omega)]
  have e : L + 1 - ([A] ++ List.zipWith (fun a b => a ++ b) s0 s1).length = 0 := by
    rw [List.length_append, List.length_zipWith]
    show L + 1 - (1 + _) = 0
    omega
  rw [e]
  rfl
theorem at0_app0 {a b : List Nat} {i : Nat} (h : i < a.length) : at0 (a ++ b) i = at0 a i := by
  unfold at0
  rw [List.getD_eq_getElem?_getD, List.getElem?_append_left h, List.getD_eq_getElem?_getD]
theorem at0_app1 {a b : List Nat} {i : Nat} : at0 (a ++ b) (a.length + i) = at0 b i := by
  unfold at0
  rw [List.getD_eq_getElem?_getD, List.getElem?_append_right (by omega), List.getD_eq_getElem?_getD, show a.length + i - a.length = i by omega]
/-- the half s of a pair of rows -/
theorem dbl_side {r : List Nat} {m s q : Nat} (F : Full r m) (hs : s < 2) (hq : q < m) : at0 (dbl r) (s * m + q) = s * m + at0 r q := by
  have : s = 0 ∨ s = 1 := by omega
  rcases this with rfl | rfl
  · rw [Nat.zero_mul, Nat.zero_add, Nat.zero_add]
    exact dbl_at0 (by rw [F.len]; exact hq)
  · rw [Nat.one_mul]
    have := dbl_at1 (r := r) (i := q) (by rw [F.len]; exact hq)
    rw [F.len] at this
    exact this
theorem crs_side {b m s q : Nat} (e : m % 2 = 0) (hs : s < 2) : crs b (s * m + q) = s * m + crs b q := by
  have : s = 0 ∨ s = 1 := by omega
  unfold crs
  rcases this with rfl | rfl
  · simp
  · split
    · unfold pt
      split <;> split <;> omega
    · rfl
theorem way_last : ∀ (l : Nat) (fs : List Nat) (ss : List (List Nat)), Full fs (2 ^ (l + 1)) → Sets (l + 1) fs ss → ∀ g, g < 2 ^ (l + 1) → wayP (netRows (l + 1)) ss g (2 * l + 1) = at0 fs g
  | 0, fs, ss, F, h, g, hg => by
    have h : ss = [[at0 fs 0]] := h
    subst h
    have a0 := F.at_lt (i := 0) (by decide)
    have a1 := F.at_lt (i := 1) (by decide)
    have ne : at0 fs 0 ≠ at0 fs 1 := fun z => by
      have := F.inj (i := 0) (j := 1) (by decide) (by decide) z
      omega
    have hg : g < 2 := hg
    have : g = 0 ∨ g = 1 := by omega
    show at0 (List.range 2) (crs (at0 [at0 fs 0] (at0 (List.range 2) g / 2)) (at0 (List.range 2) g)) = at0 fs g
    rw [at0_range hg, show g / 2 = 0 by omega]
    show at0 (List.range 2) (crs (at0 fs 0) g) = at0 fs g
    have c : at0 fs 0 = 0 ∨ at0 fs 0 = 1 := by omega
    rcases this with rfl | rfl <;> rcases c with c | c
    · rw [c]; rfl
    · rw [c]; rfl
    · have : at0 fs 1 = 1 := by omega
      rw [c, this]; rfl
    · have : at0 fs 1 = 0 := by omega
      rw [c, this]; rfl
  | l + 1, fs, ss, F, h, g, hg => by
    obtain ⟨hf, s0, s1, O, h0, h1, hss⟩ := h
    have e2 : 2 ^ (l + 1 + 1) = 2 * 2 ^ (l + 1) := by rw [Nat.pow_succ]; omega
    have e3 : 2 ^ (l + 1) = 2 * 2 ^ l := by rw [Nat.pow_succ]; omega
    have hl : (netRows (l + 1)).length = 2 * l + 2 := netRows_len l
    have hfull := netRows_full l
    have IH0 := fun Fx => way_last l (sideL fs hf (2 ^ (l + 2)) 0) s0 Fx h0
    have IH1 := fun Fx => way_last l (sideL fs hf (2 ^ (l + 2)) 1) s1 Fx h1
    have sh0 := fun Fx => sets_shape l (sideL fs hf (2 ^ (l + 2)) 0) s0 Fx h0
    have sh1 := fun Fx => sets_shape l (sideL fs hf (2 ^ (l + 2)) 1) s1 Fx h1
    show wayP (rowsN (2 ^ (l + 2)) (netRows (l + 1))) ss g (2 * (l + 1) + 1) = at0 fs g
    rw [show l + 2 = l + 1 + 1 from rfl] at *
    generalize hR : netRows (l + 1) = R at *
    generalize hn : 2 ^ (l + 1 + 1) = n at *
    generalize hm : 2 ^ (l + 1) = m at *
    have ev : n % 2 = 0 := by omega
    have hnm : n / 2 = m := by omega
    have em : m % 2 = 0 := by omega
    have F0 := side_full (s := 0) F O ev (by decide)
    have F1 := side_full (s := 1) F O ev (by decide)
    rw [hnm] at F0 F1
    obtain ⟨a0, b0, _⟩ := sh0 F0
    obtain ⟨a1, b1, _⟩ := sh1 F1
    have IH0 := IH0 F0
    have IH1 := IH1 F1
    -- the side
    have hs : at0 hf g < 2 := O.bit g hg
    have gkg := gk_of O ev hg
    generalize hsd : at0 hf g = s at *
    have okR : ∀ i, i < R.length → Full (R.getD i []) m := fun i hi => hfull _ (getD_mem hi)
    have hk : g / 2 < m := by omega
    -- the inner settings of the side
    have inner : ∃ st : List (List Nat), st.length = 2 * l + 1 ∧ (∀ i, i < 2 * l + 1 → ∀ q, q < m → at0 (ss.getD (i + 1) []) ((s * m + q) / 2) = at0 (st.getD i []) (q / 2)) ∧ (wayP R st (g / 2) (2 * l + 1) = at0 fs g / 2) ∧ ∀ r ∈ st, r.length = 2 ^ l := by
      have cs : s = 0 ∨ s = 1 := by omega
      rcases cs with rfl | rfl
      · refine ⟨s0, a0, fun i hi q hq => ?_, ?_, b0⟩
        · rw [hss, zs_mid (by omega) (by omega), Nat.zero_mul, Nat.zero_add]
          exact at0_app0 (by rw [b0 _ (getD_mem (by omega))]; omega)
        · rw [IH0 _ hk, side_at (by omega), gkg]
      · refine ⟨s1, a1, fun i hi q hq => ?_, ?_, b1⟩
        · have lb := b0 _ (getD_mem (rows := s0) (i := i) (by omega))
          rw [hss, zs_mid (by omega) (by omega), show (1 * m + q) / 2 = (s0.getD i []).length + q / 2 by rw [lb]; omega]
          exact at0_app1
        · rw [IH1 _ hk, side_at (by omega), gkg]
    obtain ⟨st, lst, hst, hfin, _⟩ := inner
    have wlt : ∀ i, i < R.length → wayP R st (g / 2) i < m := by
      intro i
      induction i with
      | zero => exact fun hi => (okR 0 hi).at_lt hk
      | succ i ih => exact fun hi => (okR _ hi).at_lt (crs_lt (ih (by omega)) em)
    -- the first stage
    have p0 : wayP (rowsN n R) ss g 0 = g := by
      show at0 ((rowsN n R).getD 0 []) g = g
      rw [rowsN_0]
      exact at0_range hg
    have ss0 : ss.getD 0 [] = firstL hf n := by rw [hss]; rfl
    have f1 : at0 (outN n) (crs (at0 (firstL hf n) (g / 2)) g) = s * m + g / 2 := by
      have t := O.tau (2 * (g / 2)) (by omega)
      rw [pt_even] at t
      have bl : at0 (firstL hf n) (g / 2) = at0 hf (2 * (g / 2)) := at0_map (by omega)
      have lt1 : crs (at0 (firstL hf n) (g / 2)) g < n := crs_lt hg ev
      rw [outN_at lt1, crs_div, hnm, bl]
      have key : crs (at0 hf (2 * (g / 2))) g % 2 = s := by
        unfold crs
        rcases Nat.mod_two_eq_zero_or_one g with c | c
        · have e : 2 * (g / 2) = g := by omega
          rw [e] at t ⊢
          rw [hsd] at t ⊢
          split
          · rw [pt_mod]; omega
          · omega
        · have e : 2 * (g / 2) + 1 = g := by omega
          rw [e, hsd] at t
          split
          · rw [pt_mod]; omega
          · omega
      rw [key]
      omega
    -- the stages within
    have mid : ∀ i, i < 2 * l + 1 → wayP (rowsN n R) ss g (i + 1) = s * m + wayP R st (g / 2) i := by
      intro i
      induction i with
      | zero =>
        intro _
        show at0 ((rowsN n R).getD 1 []) (crs (at0 (ss.getD 0 []) (wayP (rowsN n R) ss g 0 / 2)) (wayP (rowsN n R) ss g 0)) = _
        rw [p0, ss0, rowsN_1, at0_comp (by rw [outN_len]; exact crs_lt hg ev), f1]
        exact dbl_side (okR 0 (by omega)) hs hk
      | succ i ih =>
        intro hi
        have ih := ih (by omega)
        have w := wlt i (by omega)
        show at0 ((rowsN n R).getD (i + 1 + 1) []) (crs (at0 (ss.getD (i + 1) []) (wayP (rowsN n R) ss g (i + 1) / 2)) (wayP (rowsN n R) ss g (i + 1))) = s * m + at0 (R.getD (i + 1) []) (crs (at0 (st.getD i []) (wayP R st (g / 2) i / 2)) (wayP R st (g / 2) i))
        rw [ih, hst i (by omega) _ w, rowsN_mid (by omega) (by omega), crs_side em hs]
        exact dbl_side (okR _ (by omega)) hs (crs_lt w em)
    -- back
    have Fo := outN_full ev
    have w1 := wlt (2 * l) (by omega)
    have f2 : wayP (rowsN n R) ss g (2 * l + 2) = 2 * (at0 fs g / 2) + s := by
      show at0 ((rowsN n R).getD (2 * l + 2) []) (crs (at0 (ss.getD (2 * l + 1) []) (wayP (rowsN n R) ss g (2 * l + 1) / 2)) (wayP (rowsN n R) ss g (2 * l + 1))) = _
      have wl : s * m + crs (at0 (st.getD (2 * l) []) (wayP R st (g / 2) (2 * l) / 2)) (wayP R st (g / 2) (2 * l)) < n := by
        have := crs_lt (b := at0 (st.getD (2 * l) []) (wayP R st (g / 2) (2 * l) / 2)) w1 em
        have cs : s = 0 ∨ s = 1 := by omega
        rcases cs with rfl | rfl <;> omega
      have rl := rowsN_last (n := n) (R := R) (by omega)
      rw [hl] at rl
      rw [mid (2 * l) (by omega), hst (2 * l) (by omega) _ w1, rl, crs_side em hs, at0_comp (by rw [dbl_len, (okR (2 * l + 2 - 1) (by omega)).len]; omega),
        dbl_side (okR (2 * l + 2 - 1) (by omega)) hs (crs_lt w1 em)]
      have hw : at0 (R.getD (2 * l + 2 - 1) []) (crs (at0 (st.getD (2 * l) []) (wayP R st (g / 2) (2 * l) / 2)) (wayP R st (g / 2) (2 * l))) = at0 fs g / 2 := hfin
      rw [hw]
      have fg := F.at_lt hg
      have pl : 2 * (at0 fs g / 2) + s < n := by omega
      have oe : at0 (outN n) (2 * (at0 fs g / 2) + s) = s * m + at0 fs g / 2 := by
        rw [outN_at pl, hnm]
        have cs : s = 0 ∨ s = 1 := by omega
        rcases cs with rfl | rfl
        · rw [show (2 * (at0 fs g / 2) + 0) / 2 = at0 fs g / 2 by omega, show (2 * (at0 fs g / 2) + 0) % 2 = 0 by omega]
          omega
        · rw [show (2 * (at0 fs g / 2) + 1) / 2 = at0 fs g / 2 by omega, show (2 * (at0 fs g / 2) + 1) % 2 = 1 by omega]
          omega
      rw [← oe]
      exact Fo.inv_l pl
    show at0 ((rowsN n R).getD (2 * l + 2 + 1) []) (crs (at0 (ss.getD (2 * l + 2) []) (wayP (rowsN n R) ss g (2 * l + 2) / 2)) (wayP (rowsN n R) ss g (2 * l + 2))) = at0 fs g
    have fg := F.at_lt hg
    have re := rowsN_end (n := n) (R := R) (by omega)
    rw [hl] at re
    have sl : ss.getD (2 * l + 2) [] = lastL fs hf n := by
      rw [hss]
      exact zs_last a0 a1
    rw [f2, re, sl, show (2 * (at0 fs g / 2) + s) / 2 = at0 fs g / 2 by omega]
    have la : at0 (lastL fs hf n) (at0 fs g / 2) = at0 hf (at0 (invL fs n) (2 * (at0 fs g / 2))) := at0_map (by omega)
    rw [la, at0_range (crs_lt (by omega) ev)]
    have cs : s = 0 ∨ s = 1 := by omega
    rcases Nat.mod_two_eq_zero_or_one (at0 fs g) with c | c
    · rw [show 2 * (at0 fs g / 2) = at0 fs g by omega, F.inv_l hg, hsd]
      unfold crs
      rcases cs with rfl | rfl
      · rw [if_neg (by decide)]; rfl
      · rw [if_pos rfl]
        unfold pt
        rw [if_neg (by omega)]
        omega
    · have ep : 2 * (at0 fs g / 2) = pt (at0 fs g) := by unfold pt; rw [if_neg (by omega)]; omega
      have eo : 2 * (at0 fs g / 2) + 1 = at0 fs g := by omega
      have t := O.sig g hg
      unfold sg at t
      rw [hsd, ← ep] at t
      unfold crs
      rcases cs with rfl | rfl
      · rw [if_pos (by omega), Nat.add_zero, pt_even, eo]
      · rw [if_neg (by omega), eo]
end Ck
/-! ## text L61Q -/
set_option Elab.async false
set_option linter.all false
set_option maxRecDepth 100000
set_option maxHeartbeats 4000000
namespace Ck
open PySem PySem.Spec PyProof.Rows L2
/-! ### the plain law of the two nets -/
theorem sorted_range {us : List Nat} {n : Nat} (p : us.Perm (List.range n)) (s : us.Pairwise (· ≤ ·)) : us = List.range n :=
  List.Perm.eq_of_pairwise (le := fun a b => a ≤ b) (fun a b _ _ h1 h2 => Nat.le_antisymm h1 h2) s (List.pairwise_le_range) p
theorem full_perm {fs : List Nat} {n : Nat} (F : Full fs n) : fs.Perm (List.range n) :=
  (List.perm_ext_iff_of_nodup F.nd List.nodup_range).mpr fun a => ⟨fun h => List.mem_range.mpr (F.lt a h), fun h => F.mem (List.mem_range.mp h)⟩
theorem pairs_uniq {A B : List (Nat × Nat)} (p : A.Perm B) (sa : A.Pairwise fun a b => a.1 ≤ b.1) (sb : B.Pairwise fun a b => a.1 ≤ b.1) (nd : (A.map (·.1)).Nodup) : A = B := by
  refine List.Perm.eq_of_pairwise (le := fun a b : Nat × Nat => a.1 ≤ b.1) (fun a b ha hb h1 h2 => ?_) sa sb p
  have hb := p.mem_iff.mpr hb
  obtain ⟨i, hi, rfl⟩ := List.mem_iff_getElem.mp ha
  obtain ⟨j, hj, rfl⟩ := List.mem_iff_getElem.mp hb
  have e : (A.map (·.1))[i]'(by rw [List.length_map]; exact hi) = (A.map (·.1))[j]'(by rw [List.length_map]; exact hj) := by
    rw [List.getElem_map, List.getElem_map]
    exact Nat.le_antisymm h1 h2
  have ij := (List.getElem_inj nd).mp e
  subst ij
  rfl
theorem io_eq {es : List Ent} (nd : (es.map (·.1)).Nodup) : es.map (fun e => (e.1, e.2.1)) = (es.map (·.1)).map fun k => (k, outOf es k) := by
  rw [List.map_map]
  refine List.map_congr_left fun e he => ?_
  show (e.1, e.2.1) = (e.1, outOf es e.1)
  unfold outOf
  rw [eFind_of nd (k := e.1) (b := e.2.1) (c := e.2.2) he]
  rfl
theorem os_io {es : List Ent} {os : List Nat} (nd : (es.map (·.1)).Nodup) (p : os.Perm (es.map (·.1))) : (os.map fun k => (k, outOf es k)).Perm (es.map fun e => (e.1, e.2.1)) := by
  rw [io_eq nd]
  exact p.map _
theorem os_pairs {es : List Ent} {os : List Nat} {B : List (Nat × Nat)} (nd : (es.map (·.1)).Nodup) (p : os.Perm (es.map (·.1))) (s : os.Pairwise (· ≤ ·)) (q : B.Perm (es.map fun e => (e.1, e.2.1))) (sb : B.Pairwise fun a b => a.1 ≤ b.1) : os.map (fun k => (k, outOf es k)) = B := by
  refine pairs_uniq ((os_io nd p).trans q.symm) (List.pairwise_map.mpr (s.imp fun {a b} h => h)) sb ?_
  rw [List.map_map]
  have : (os.map ((·.1) ∘ fun k => (k, outOf es k))) = os := (List.map_congr_left fun _ _ => rfl).trans (List.map_id' os)
  rw [this]
  exact p.nodup_iff.mpr nd
theorem kC_num {es : List Ent} {k : Nat} (h : k ∈ es.map (·.1)) : kC es k = some (numOf es k) := by
  unfold kC numOf
  cases e : eFind es k with
  | none => exact absurd h (eFind_none.mp e)
  | some bc => rfl
theorem kR_out {q : Par} {es : List Ent} {k : Nat} (h : k ∈ es.map (·.1)) : kR q es k = outOf es k / q.g := by
  unfold kR outOf
  cases e : eFind es k with
  | none => exact absurd h (eFind_none.mp e)
  | some bc => rfl
/-- the spots of a side -/
def spotK (q : Par) (es : List Ent) (side k : Nat) : List Key := [Sum.inl ((vS (kL q) (kR q es) side k : Nat) : Int), Sum.inl ((numOf es k : Nat) : Int)]
theorem spots_nodup {q : Par} {es : List Ent} {os : List Nat} {side : Nat} (nd : (es.map (·.1)).Nodup) (p : os.Perm (es.map (·.1))) (S : Snd (kL q) (kR q es) (kC es)) : (os.map (spotK q es side)).Nodup := by
  have ndo : os.Nodup := p.nodup_iff.mpr nd
  refine List.pairwise_map.mpr (List.Pairwise.imp_of_mem ?_ ndo)
  intro a b ha hb hab z
  unfold spotK at z
  have z1 := (List.cons.inj z).1
  have z2 := (List.cons.inj (List.cons.inj z).2).1
  have z1 := Sum.inl.inj z1
  have z2 := Sum.inl.inj z2
  have ka := kC_num (p.mem_iff.mp ha)
  have kb := kC_num (p.mem_iff.mp hb)
  have e1 : vS (kL q) (kR q es) side a = vS (kL q) (kR q es) side b := by omega
  have e2 : numOf es a = numOf es b := by omega
  exact hab (S.uniq e1 (by rw [ka, e2]) kb)
structure LM (q : Par) (es : List Ent) (lc : List (Nat × Nat)) : Prop where
  snd : Snd (kL q) (kR q es) (kC es)
  bd : ∀ e ∈ es, e.2.2 < q.mid
  io : es.map (fun e => (e.1, e.2.1)) = lc
structure LcOk (lc : List (Nat × Nat)) (many : Nat) : Prop where
  n1 : (lc.map (·.1)).Nodup
  n2 : (lc.map (·.2)).Nodup
  lt : ∀ p ∈ lc, p.1 < many ∧ p.2 < many
theorem LcOk.len {lc : List (Nat × Nat)} {many : Nat} (L : LcOk lc many) : lc.length ≤ many := by
  have := L.n1.length_le_of_subset (l₂ := List.range many) (fun x hx => by
    obtain ⟨p, hp, rfl⟩ := List.mem_map.mp hx
    exact List.mem_range.mpr (L.lt p hp).1)
  rw [List.length_map, List.length_range] at this
  exact this
theorem LM.keys {q : Par} {es : List Ent} {lc : List (Nat × Nat)} (M : LM q es lc) : es.map (·.1) = lc.map (·.1) := by
  rw [← M.io, List.map_map]
  rfl
theorem LM.outs {q : Par} {es : List Ent} {lc : List (Nat × Nat)} (M : LM q es lc) : es.map (·.2.1) = lc.map (·.2) := by
  rw [← M.io, List.map_map]
  rfl
/-- one call ended -/
theorem eFind_filter {es : List Ent} {one k : Nat} : eFind (es.filter fun e => !(e.1 == one)) k = if k = one then none else eFind es k := by
  induction es with
  | nil => split <;> rfl
  | cons e r ih =>
    rw [List.filter_cons]
    by_cases c : e.1 = one
    · rw [if_neg (by simp [c]), ih]
      by_cases d : k = one
      · rw [if_pos d, if_pos d]
      · rw [if_neg d, if_neg d]
        unfold eFind
        rw [List.find?_cons]
        have : (e.1 == k) = false := beq_eq_false_iff_ne.mpr fun z => d (by rw [← z, c])
        rw [this]
    · rw [if_pos (by simp [c])]
      unfold eFind at ih ⊢
      rw [List.find?_cons, List.find?_cons]
      by_cases d : e.1 = k
      · have : (e.1 == k) = true := beq_iff_eq.mpr d
        rw [this, if_neg fun z => c (by rw [d, z])]
      · have : (e.1 == k) = false := beq_eq_false_iff_ne.mpr d
        rw [this]
        exact ih
theorem LM.end {q : Par} {es : List Ent} {lc : List (Nat × Nat)} (M : LM q es lc) (one : Nat) : LM q (es.filter fun e => !(e.1 == one)) (lc.filter fun p => !(p.1 == one)) := by
  refine ⟨fun i j d hi hj ne => ?_, fun e he => M.bd e (List.mem_filter.mp he).1, ?_⟩
  · unfold kC at hi hj
    rw [eFind_filter] at hi hj
    by_cases ci : i = one
    · rw [if_pos ci] at hi; cases hi
    · by_cases cj : j = one
      · rw [if_pos cj] at hj; cases hj
      · rw [if_neg ci] at hi
        rw [if_neg cj] at hj
        have := M.snd i j d hi hj ne
        unfold kR at this ⊢
        rw [eFind_filter, eFind_filter, if_neg ci, if_neg cj]
        exact this
  · rw [← M.io, List.filter_map]
    rfl
theorem LcOk.end {lc : List (Nat × Nat)} {many : Nat} (L : LcOk lc many) (one : Nat) : LcOk (lc.filter fun p => !(p.1 == one)) many :=
  ⟨(List.filter_sublist.map _).nodup L.n1, (List.filter_sublist.map _).nodup L.n2, fun p hp => L.lt p (List.mem_filter.mp hp).1⟩
theorem LcOk.put {lc : List (Nat × Nat)} {many one other : Nat} (L : LcOk lc many) (h1 : one ∉ lc.map (·.1)) (h2 : other ∉ lc.map (·.2)) (l1 : one < many) (l2 : other < many) : LcOk (lc ++ [(one, other)]) many := by
  refine ⟨?_, ?_, fun p hp => ?_⟩
  · rw [List.map_append]
    refine List.nodup_append.mpr ⟨L.n1, by simp, fun a ha b hb z => ?_⟩
    have : b = one := by simpa using hb
    exact h1 (by rw [← this, ← z]; exact ha)
  · rw [List.map_append]
    refine List.nodup_append.mpr ⟨L.n2, by simp, fun a ha b hb z => ?_⟩
    have : b = other := by simpa using hb
    exact h2 (by rw [← this, ← z]; exact ha)
  · rcases List.mem_append.mp hp with hp | hp
    · exact L.lt p hp
    · rw [List.mem_singleton.mp hp]; exact ⟨l1, l2⟩
theorem nodup_inj {f : Ent → Nat} {es : List Ent} (h : (es.map f).Nodup) {a b : Ent} (ha : a ∈ es) (hb : b ∈ es) (e : f a = f b) : a = b := by
  obtain ⟨i, hi, rfl⟩ := List.mem_iff_getElem.mp ha
  obtain ⟨j, hj, rfl⟩ := List.mem_iff_getElem.mp hb
  have e2 : (es.map f)[i]'(by rw [List.length_map]; exact hi) = (es.map f)[j]'(by rw [List.length_map]; exact hj) := by
    rw [List.getElem_map, List.getElem_map]
    exact e
  have ij := (List.getElem_inj h).mp e2
  subst ij
  rfl
/-- on one side no two colours are both in use beside a new gate -/
theorem two_used {g : Nat} (hg : g = 1 ∨ g = 2) {f : Ent → Nat} {es : List Ent} (h : (es.map f).Nodup) {x : Nat} (hx : x ∉ es.map f) {c d : Nat} (cd : c ≠ d) {a b : Ent} (ha : a ∈ es) (hb : b ∈ es) (ea : f a / g = x / g) (eb : f b / g = x / g) (ca : a.2.2 = c) (cb : b.2.2 = d) : False := by
  have nx : ∀ e ∈ es, f e ≠ x := fun e he z => hx (List.mem_map.mpr ⟨e, he, z⟩)
  have nab : f a ≠ f b := fun z => cd (by rw [← ca, ← cb, nodup_inj h ha hb z])
  have na := nx a ha
  have nb := nx b hb
  rcases hg with rfl | rfl <;> omega
theorem one_used {f : Ent → Nat} {es : List Ent} {x : Nat} (hx : x ∉ es.map f) {a : Ent} (ha : a ∈ es) (ea : f a / 1 = x / 1) : False :=
  hx (List.mem_map.mpr ⟨a, ha, by omega⟩)
theorem free_side {g : Nat} (hg : g = 1 ∨ g = 2) {f : Ent → Nat} {es : List Ent} (h : (es.map f).Nodup) {x : Nat} (hx : x ∉ es.map f) {m : Nat} (hm : g ≤ m) : ∃ c, c < m ∧ ∀ e ∈ es, f e / g = x / g → e.2.2 ≠ c := by
  refine Classical.byContradiction fun no => ?_
  have u : ∀ c, c < m → ∃ e, e ∈ es ∧ f e / g = x / g ∧ e.2.2 = c := by
    intro c hc
    refine Classical.byContradiction fun z => no ⟨c, hc, fun e he h1 h2 => z ⟨e, he, h1, h2⟩⟩
  rcases hg with rfl | rfl
  · obtain ⟨e, he, h1, _⟩ := u 0 (by omega)
    exact one_used hx he h1
  · obtain ⟨a, ha, a1, a2⟩ := u 0 (by omega)
    obtain ⟨b, hb, b1, b2⟩ := u 1 (by omega)
    exact two_used (.inr rfl) h hx (by decide) ha hb a1 b1 a2 b2
theorem free_wide {g : Nat} (hg : g = 1 ∨ g = 2) {es : List Ent} (h1 : (es.map (·.1)).Nodup) (h2 : (es.map (·.2.1)).Nodup) {x y : Nat} (hx : x ∉ es.map (·.1)) (hy : y ∉ es.map (·.2.1)) :
    ∃ c, c < 2 * g - 1 ∧ (∀ e ∈ es, e.1 / g = x / g → e.2.2 ≠ c) ∧ ∀ e ∈ es, e.2.1 / g = y / g → e.2.2 ≠ c := by
  refine Classical.byContradiction fun no => ?_
  have u : ∀ c, c < 2 * g - 1 → (∃ e, e ∈ es ∧ e.1 / g = x / g ∧ e.2.2 = c) ∨ ∃ e, e ∈ es ∧ e.2.1 / g = y / g ∧ e.2.2 = c := by
    intro c hc
    refine Classical.byContradiction fun z => no ⟨c, hc, fun e he k1 k2 => z (.inl ⟨e, he, k1, k2⟩), fun e he k1 k2 => z (.inr ⟨e, he, k1, k2⟩)⟩
  rcases hg with rfl | rfl
  · rcases u 0 (by omega) with ⟨e, he, k1, _⟩ | ⟨e, he, k1, _⟩
    · exact one_used hx he k1
    · exact one_used (f := fun e => e.2.1) hy he k1
  · rcases u 0 (by omega) with ⟨a, ha, a1, a2⟩ | ⟨a, ha, a1, a2⟩ <;> rcases u 1 (by omega) with ⟨b, hb, b1, b2⟩ | ⟨b, hb, b1, b2⟩ <;> rcases u 2 (by omega) with ⟨c, hc, c1, c2⟩ | ⟨c, hc, c1, c2⟩
    · exact two_used (.inr rfl) h1 hx (by decide) ha hb a1 b1 a2 b2
    · exact two_used (.inr rfl) h1 hx (by decide) ha hb a1 b1 a2 b2
    · exact two_used (.inr rfl) h1 hx (by decide) ha hc a1 c1 a2 c2
    · exact two_used (f := fun e => e.2.1) (.inr rfl) h2 hy (by decide) hb hc b1 c1 b2 c2
    · exact two_used (.inr rfl) h1 hx (by decide) hb hc b1 c1 b2 c2
    · exact two_used (f := fun e => e.2.1) (.inr rfl) h2 hy (by decide) ha hc a1 c1 a2 c2
    · exact two_used (f := fun e => e.2.1) (.inr rfl) h2 hy (by decide) ha hb a1 b1 a2 b2
    · exact two_used (f := fun e => e.2.1) (.inr rfl) h2 hy (by decide) ha hb a1 b1 a2 b2
end Ck
/-! ## text L61R -/
set_option Elab.async false
set_option linter.all false
set_option maxRecDepth 100000
set_option maxHeartbeats 4000000
namespace Ck
open PySem PySem.Spec PyProof.Rows L2
def Mt (H : Hp) (X : Addr) : Prop := ∀ u, H X = some u → (∃ xs, u = .lst xs) ∨ ∃ k, u = .dK k
theorem wo_get {H : Hp} {a X : Addr} {u : HO} (h : H a = some u) (m : Mt H X) (n1 : ∀ xs, u ≠ .lst xs) (n2 : ∀ k, u ≠ .dK k) : wo H X a = some u := by
  rw [wo_ne]
  · exact h
  · intro z
    subst z
    rcases m u h with ⟨xs, e⟩ | ⟨k, e⟩
    · exact n1 xs e
    · exact n2 k e
theorem ClosSt.frame {K : PySem.W.Frag} {H H' : Hp} {o D X : Addr} {q : Par} {es : List Ent} (c : ClosSt K (wo H D) H o D q es) (s : Same (wo H X) H') (XD : D ≠ X) (m : Mt H X) : ClosSt K (wo H' D) H' o D q es := by
  obtain ⟨dx, ho⟩ := c.st
  have ho := c.same _ _ ho
  obtain ⟨kvs, hD, hE⟩ := c.dict
  have ho' := s _ _ (wo_get ho m (fun xs z => nomatch z) (fun k z => nomatch z))
  have hD' := s _ _ ((wo_ne XD).trans hD)
  have oD : o ≠ D := ne_of ho' hD' (by intro z; cases z)
  refine ⟨wo_same _ _, wo_self _ _, ⟨dx, by rw [wo_ne oD]; exact ho'⟩, ⟨kvs, hD', Paired.mapP hE fun kv e h => ?_⟩, c.nd, c.len, c.ok⟩
  obtain ⟨h1, t, h2, h3⟩ := h
  exact ⟨h1, t, h2, s _ _ (wo_get h3 m (fun xs z => nomatch z) (fun k z => nomatch z))⟩
theorem ClosSt.self {K : PySem.W.Frag} {G H : Hp} {o D : Addr} {q : Par} {es : List Ent} (c : ClosSt K G H o D q es) : ClosSt K (wo H D) H o D q es := c.wide
def lcK (lc : List (Nat × Nat)) : List (Key × V) := lc.map fun p => ((Sum.inl (p.1 : Int) : Key), nv p.2)
/-- the state of the law's inner loop -/
structure LS (K : PySem.W.Frag) (G0 H : Hp) (d t Dt w Dw Dc : Addr) (qt qw : Par) (est esw : List Ent) (lc : List (Nat × Nat)) : Prop where
  same : Same G0 H
  f1 : G0 d = none
  f2 : G0 Dt = none
  f3 : G0 Dw = none
  f4 : G0 Dc = none
  dice : D3 H d
  ct : ClosSt K (wo H Dt) H t Dt qt est
  cw : ClosSt K (wo H Dw) H w Dw qw esw
  dc : H Dc = some (.dK (lcK lc))
  n1 : Dt ≠ Dw
  n2 : Dt ≠ Dc
  n3 : Dw ≠ Dc
section
variable {K : PySem.W.Frag} {G0 H H' : Hp} {d t Dt w Dw Dc : Addr} {qt qw : Par} {est esw : List Ent} {lc : List (Nat × Nat)}
theorem LS.nd1 (L : LS K G0 H d t Dt w Dw Dc qt qw est esw lc) : d ≠ Dt ∧ d ≠ Dw ∧ d ≠ Dc := by
  obtain ⟨x, y, z, hd⟩ := L.dice
  obtain ⟨k1, h1, _⟩ := L.ct.dict
  obtain ⟨k2, h2, _⟩ := L.cw.dict
  exact ⟨ne_of hd h1 (by intro z; cases z), ne_of hd h2 (by intro z; cases z), ne_of hd L.dc (by intro z; cases z)⟩
theorem mt_lst {X : Addr} {xs : List V} (h : H X = some (.lst xs)) : Mt H X := fun u e => .inl ⟨xs, by rw [h] at e; exact (Option.some.inj e).symm⟩
theorem mt_dk {X : Addr} {k : List (Key × V)} (h : H X = some (.dK k)) : Mt H X := fun u e => .inr ⟨k, by rw [h] at e; exact (Option.some.inj e).symm⟩
theorem mt_none {X : Addr} (h : H X = none) : Mt H X := fun u e => by rw [h] at e; cases e
theorem same_wo' {X : Addr} (s : Same H H') : Same (wo H X) H' := (wo_same H X).trans s
theorem LS.alloc (L : LS K G0 H d t Dt w Dw Dc qt qw est esw lc) (s : Same H H') : LS K G0 H' d t Dt w Dw Dc qt qw est esw lc := by
  obtain ⟨x, y, z, hd⟩ := L.dice
  obtain ⟨dxt, hot⟩ := L.ct.st
  obtain ⟨dxw, how⟩ := L.cw.st
  obtain ⟨k1, h1, e1⟩ := L.ct.dict
  obtain ⟨k2, h2, e2⟩ := L.cw.dict
  exact ⟨L.same.trans s, L.f1, L.f2, L.f3, L.f4, ⟨x, y, z, s _ _ hd⟩, (L.ct.keep s).self, (L.cw.keep s).self, s _ _ L.dc, L.n1, L.n2, L.n3⟩
theorem LS.roll (L : LS K G0 H d t Dt w Dw Dc qt qw est esw lc) (x y z : Int) : LS K G0 (upd H d (.lst [V.int x, V.int y, V.int z])) d t Dt w Dw Dc qt qw est esw lc := by
  obtain ⟨m1, m2, m3⟩ := L.nd1
  obtain ⟨x', y', z', hd⟩ := L.dice
  have s : Same (wo H d) (upd H d (.lst [V.int x, V.int y, V.int z])) := Same.up (wo_same H d) (wo_self H d)
  have m := mt_lst hd
  exact ⟨Same.up L.same L.f1, L.f1, L.f2, L.f3, L.f4, ⟨x, y, z, upd_same⟩, L.ct.frame s (Ne.symm m1) m, L.cw.frame s (Ne.symm m2) m, by rw [upd_ne (Ne.symm m3)]; exact L.dc, L.n1, L.n2, L.n3⟩
theorem LS.tight (L : LS K G0 H d t Dt w Dw Dc qt qw est esw lc) {es' : List Ent} (c : ClosSt K (wo H Dt) H' t Dt qt es') : LS K G0 H' d t Dt w Dw Dc qt qw es' esw lc := by
  obtain ⟨m1, m2, m3⟩ := L.nd1
  obtain ⟨x', y', z', hd⟩ := L.dice
  obtain ⟨k1, h1, e1⟩ := L.ct.dict
  have m := mt_dk h1
  exact ⟨(same_wo L.same L.f2).trans c.same, L.f1, L.f2, L.f3, L.f4, ⟨x', y', z', c.same _ _ ((wo_ne m1).trans hd)⟩, c.self, L.cw.frame c.same (Ne.symm L.n1) m, c.same _ _ ((wo_ne (Ne.symm L.n2)).trans L.dc), L.n1, L.n2, L.n3⟩
theorem LS.wide (L : LS K G0 H d t Dt w Dw Dc qt qw est esw lc) {es' : List Ent} (c : ClosSt K (wo H Dw) H' w Dw qw es') : LS K G0 H' d t Dt w Dw Dc qt qw est es' lc := by
  obtain ⟨m1, m2, m3⟩ := L.nd1
  obtain ⟨x', y', z', hd⟩ := L.dice
  obtain ⟨k1, h1, e1⟩ := L.cw.dict
  have m := mt_dk h1
  exact ⟨(same_wo L.same L.f3).trans c.same, L.f1, L.f2, L.f3, L.f4, ⟨x', y', z', c.same _ _ ((wo_ne m2).trans hd)⟩, L.ct.frame c.same L.n1 m, c.self, c.same _ _ ((wo_ne (Ne.symm L.n3)).trans L.dc), L.n1, L.n2, L.n3⟩
theorem LS.setc (L : LS K G0 H d t Dt w Dw Dc qt qw est esw lc) {lc' : List (Nat × Nat)} : LS K G0 (upd H Dc (.dK (lcK lc'))) d t Dt w Dw Dc qt qw est esw lc' := by
  obtain ⟨m1, m2, m3⟩ := L.nd1
  obtain ⟨x', y', z', hd⟩ := L.dice
  have s : Same (wo H Dc) (upd H Dc (.dK (lcK lc'))) := Same.up (wo_same H Dc) (wo_self H Dc)
  have m := mt_dk L.dc
  exact ⟨Same.up L.same L.f4, L.f1, L.f2, L.f3, L.f4, ⟨x', y', z', by rw [upd_ne m3]; exact hd⟩, L.ct.frame s L.n2 m, L.cw.frame s L.n3 m, upd_same, L.n1, L.n2, L.n3⟩
theorem LS.newc (L : LS K G0 H d t Dt w Dw Dc qt qw est esw lc) {lc' : List (Nat × Nat)} {Dn : Addr} (nn : H Dn = none) : LS K G0 (upd H Dn (.dK (lcK lc'))) d t Dt w Dw Dn qt qw est esw lc' := by
  have L' := L.alloc (same_upd (o := .dK (lcK lc')) nn)
  obtain ⟨k1, h1, _⟩ := L.ct.dict
  obtain ⟨k2, h2, _⟩ := L.cw.dict
  exact ⟨L'.same, L.f1, L.f2, L.f3, L.same.free nn, L'.dice, L'.ct, L'.cw, upd_same, L.n1, ne_of_none h1 nn, ne_of_none h2 nn⟩
end
theorem lcK_get {lc : List (Nat × Nat)} (nd : (lc.map (·.1)).Nodup) {p : Nat × Nat} (h : p ∈ lc) : valV (lcK lc) (Sum.inl (p.1 : Int)) = some (nv p.2) := by
  induction lc with
  | nil => cases h
  | cons a r ih =>
    rw [List.map_cons, List.nodup_cons] at nd
    rcases List.mem_cons.mp h with rfl | h
    · exact valV_pos (p := ((Sum.inl (p.1 : Int) : Key), nv p.2)) rfl
    · have ne : ¬ ((Sum.inl (a.1 : Int) : Key) = Sum.inl (p.1 : Int)) := fun z => by
        have z := Sum.inl.inj z
        exact nd.1 (List.mem_map.mpr ⟨p, h, by omega⟩)
      exact (valV_neg (p := ((Sum.inl (a.1 : Int) : Key), nv a.2)) ne).trans (ih nd.2 h)
theorem lcK_none {lc : List (Nat × Nat)} {k : Nat} (h : k ∉ lc.map (·.1)) : valV (lcK lc) (Sum.inl (k : Int)) = none := by
  refine valV_none fun hm => h ?_
  unfold lcK at hm
  rw [List.map_map] at hm
  obtain ⟨p, hp, e⟩ := List.mem_map.mp hm
  have e : (Sum.inl (p.1 : Int) : Key) = Sum.inl (k : Int) := e
  have e := Sum.inl.inj e
  exact List.mem_map.mpr ⟨p, hp, by omega⟩
theorem lcK_nodup {lc : List (Nat × Nat)} (nd : (lc.map (·.1)).Nodup) : ((lcK lc).map (·.1)).Nodup := by
  unfold lcK
  rw [List.map_map]
  refine List.pairwise_map.mpr ((List.pairwise_map.mp nd).imp fun {a b} hab z => hab ?_)
  have z : (Sum.inl (a.1 : Int) : Key) = Sum.inl (b.1 : Int) := z
  have z := Sum.inl.inj z
  omega
end Ck
/-! ## text L61S -/
set_option Elab.async false
set_option linter.all false
set_option maxRecDepth 100000
set_option maxHeartbeats 4000000
namespace Ck
open PySem PySem.Spec PyProof.Rows L2
theorem comb {H : Hp} {f : Nat → List Key} : ∀ {ps ts : List Addr} {os : List Nat}, TupsAt H ps (ts.map fun t => [V.ref t, V.int 1]) → TupsAt H ts (os.map fun k => (f k).map kV) →
    Paired (fun p (e : List Key × Addr × V) => H p = some (.tup [.ref e.2.1, e.2.2]) ∧ H e.2.1 = some (.tup (e.1.map kV))) ps ((ts.zip os).map fun z => (f z.2, z.1, V.int 1))
  | [], [], [], _, _ => .nil
  | p :: ps, t :: ts, k :: os, .cons h1 r1, .cons h2 r2 => .cons ⟨h1, h2⟩ (comb r1 r2)
theorem comb_keys {f : Nat → List Key} : ∀ {ts : List Addr} {os : List Nat}, ts.length = os.length → ((ts.zip os).map fun z => (f z.2, z.1, V.int 1)).map (·.1) = os.map f
  | [], [], _ => rfl
  | t :: ts, k :: os, h => by
    have h2 : ts.length = os.length := by simpa using h
    show f k :: _ = f k :: _
    rw [← comb_keys h2]
    rfl
def castP (p : Nat × Nat) : Int × Int := ((p.1 : Int), (p.2 : Int))
def natP (p : Int × Int) : Nat × Nat := (p.1.toNat, p.2.toNat)
theorem natP_cast (l : List (Nat × Nat)) : (l.map castP).map natP = l := by
  rw [List.map_map]
  refine (List.map_congr_left fun p _ => ?_).trans (List.map_id' l)
  show (((p.1 : Int)).toNat, ((p.2 : Int)).toNat) = p
  simp
theorem zs_rows {H : Hp} {lc : List (Nat × Nat)} {zs : List (Addr × Int × Int)} (pz : (zs.map (·.2)).Perm (lc.map castP)) (sz : (zs.map (·.2)).Pairwise fun e f => e.1 ≤ f.1) (hz : ∀ z ∈ zs, H z.1 = some (.tup [V.int z.2.1, V.int z.2.2])) :
    ∃ zr : List (Nat × Nat), zr.Perm lc ∧ (zr.Pairwise fun a b => a.1 ≤ b.1) ∧ TupsAt H (zs.map (·.1)) ((zr.map fun p => [p.1, p.2]).map fun r => r.map nv) := by
  have pos : ∀ z ∈ zs, 0 ≤ z.2.1 ∧ 0 ≤ z.2.2 := fun z hm => by
    have := pz.mem_iff.mp (List.mem_map.mpr ⟨z, hm, rfl⟩)
    obtain ⟨p, _, e⟩ := List.mem_map.mp this
    have e1 : (p.1 : Int) = z.2.1 := congrArg Prod.fst e
    have e2 : (p.2 : Int) = z.2.2 := congrArg Prod.snd e
    omega
  refine ⟨(zs.map (·.2)).map natP, ?_, ?_, ?_⟩
  · have := pz.map natP
    rw [natP_cast] at this
    exact this
  · refine List.pairwise_map.mpr (sz.imp fun {a b} h => ?_)
    show a.1.toNat ≤ b.1.toNat
    omega
  · clear pz sz
    induction zs with
    | nil => exact .nil
    | cons z r ih =>
      refine .cons ?_ (ih (fun y hy => hz y (List.mem_cons_of_mem _ hy)) fun y hy => pos y (List.mem_cons_of_mem _ hy))
      have p := pos z List.mem_cons_self
      show H z.1 = some (.tup [V.int ((z.2.1.toNat : Nat) : Int), V.int ((z.2.2.toNat : Nat) : Int)])
      rw [show ((z.2.1.toNat : Nat) : Int) = z.2.1 by omega, show ((z.2.2.toNat : Nat) : Int) = z.2.2 by omega]
      exact hz z List.mem_cons_self
theorem lcK_cast (lc : List (Nat × Nat)) : lcK lc = (lc.map castP).map fun e => ((Sum.inl e.1 : Key), V.int e.2) := by
  unfold lcK
  rw [List.map_map]
  rfl
end Ck
/-! ## text L61P -/
set_option Elab.async false
set_option linter.all false
set_option maxRecDepth 100000
set_option maxHeartbeats 8000000
set_option pp.maxSteps 300
namespace Ck
open PySem PySem.Spec PyProof.Rows L2 L2.DX
/-! ### the law's walk: the rules of its own -/
def rNeN (K : PySem.W.Frag) : R2 := fun x y H Q => ∃ (a b : Addr) (xs : List Nat), x = .ref a ∧ y = .ref b ∧ H a = some (.lst (xs.map nv)) ∧ H b = some (.lst (xs.map nv)) ∧ Q (.bl false) H
theorem op_neN {X : Cx} (hu : X.A.units + 64 < cLine) : OpR X (compareOp .NotEq) (rNeN X.K) := by
  intro pins s σ H x y v u Q I rx ry h
  obtain ⟨a, b, xs, e1, e2, ha, hb, q⟩ := h
  subst e1
  subst e2
  refine op_neD hu pins s σ H _ _ v u Q I rx ry ⟨_, _, dp_nums ha, dp_nums hb, shaped_nums xs, shaped_nums xs, ?_⟩
  rw [eqv_nums]
  exact q
def rNeR (K : PySem.W.Frag) : R2 := fun x y H Q => ∃ (a b : Addr) (ts us : List Addr) (rows : List (List Nat)), x = .ref a ∧ y = .ref b ∧ H a = some (.lst (ts.map V.ref)) ∧ H b = some (.lst (us.map V.ref)) ∧ TupsAt H ts (rows.map fun r => r.map nv) ∧ TupsAt H us (rows.map fun r => r.map nv) ∧ Q (.bl false) H
theorem op_neR {X : Cx} (hu : X.A.units + 64 < cLine) : OpR X (compareOp .NotEq) (rNeR X.K) := by
  intro pins s σ H x y v u Q I rx ry h
  obtain ⟨a, b, ts, us, rows, e1, e2, ha, hb, h1, h2, q⟩ := h
  subst e1
  subst e2
  refine op_neD hu pins s σ H _ _ v u Q I rx ry ⟨_, _, dp_rows ha h1, dp_rows hb h2, shaped_rows rows, shaped_rows rows, ?_⟩
  rw [eqv_rows]
  exact q
def rNN : R2 := fun x y H Q => y = .non ∧ Q (.bl (!decide (x = .non))) H
theorem op_notNN {X : Cx} : OpR X (compareOp .IsNot) rNN := op_notN
/-- an empty tuple against an empty tuple -/
def rNeE (K : PySem.W.Frag) : R2 := fun x y H Q => ∃ (a b : Addr), x = .ref a ∧ y = .ref b ∧ H a = some (.tup []) ∧ H b = some (.tup []) ∧ Q (.bl false) H
theorem op_neE {X : Cx} (hu : X.A.units + 64 < cLine) : OpR X (compareOp .NotEq) (rNeE X.K) := by
  intro pins s σ H x y v u Q I rx ry h
  obtain ⟨a, b, e1, e2, ha, hb, q⟩ := h
  subst e1
  subst e2
  exact op_neD hu pins s σ H _ _ v u Q I rx ry ⟨_, _, .tup (SqT.of ha) .nil, .tup (SqT.of hb) .nil, rfl, rfl, q⟩
theorem pairsUp_sorted (ps : List (Option Nat)) : ∀ n, (pairsUp ps n).Pairwise fun a b => a.1 ≤ b.1
  | 0 => List.Pairwise.nil
  | n + 1 => by
    rw [pairsUp_succ]
    refine List.pairwise_append.mpr ⟨pairsUp_sorted ps n, ?_, fun a ha b hb => ?_⟩
    · cases hA ps n with
      | none => exact List.Pairwise.nil
      | some p => exact List.pairwise_singleton _ _
    · have h1 := (pairsUp_mem (i := a.1) (p := a.2) ha).1
      cases e : hA ps n with
      | none => rw [e] at hb; cases hb
      | some p =>
        rw [e] at hb
        rw [List.mem_singleton.mp hb]
        show a.1 ≤ n
        omega
section
variable {P : Program} {w : World} {K : PySem.W.Frag} {mg : Str → Option Value} {base : Heap}
structure LawUses (P : Program) (w : World) (K : PySem.W.Frag) (mg : Str → Option Value) (base : Heap) : Prop where
  roll : GDef P w K mg base "_law_roll" 1 ["_law_dice_here", "_law_many"] spRoll
  part : GDef P w K mg base "_law_part" 3 ["_law_dice_here", "_law_many"] spPart
  rounds : GDef P w K mg base "_law_rounds" 2 ["_law_script", "_law_most"] (spRounds K)
  netOf : GDef P w K mg base "net_of" 8 ["many"] (spNetOf K 3)
  sets : GDef P w K mg base "settings_for" 6 ["pairs"] (spSettings K 3)
  way : MDef P w K mg base (He.ga K "Net") "way" 4 ["self", "settings", "gate"] (spWay K)
  stages : MDef P w K mg base (He.ga K "Net") "stages" 1 ["self"] (spStages K)
  carried : GDef P w K mg base "carried_net" 5 ["pairs", "middle", "gates"] (spCarried K)
  clos : KDef P w K mg base "Clos" (He.ga K "Clos") 1 ["self", "middle", "gates", "switches"] (spClosInit K)
  shown : MDef P w K mg base (He.ga K "Clos") "shown" 1 ["self"] (spShown K)
  sound : MDef P w K mg base (He.ga K "Clos") "is_sound" 2 ["self"] (spIsSound K)
  endM : MDef P w K mg base (He.ga K "Clos") "end" 1 ["self", "one"] (spEnd K)
  put : MDef P w K mg base (He.ga K "Clos") "put_moving" 4 ["self", "one", "other"] (spPutMoving K)
def spLaw (K : PySem.W.Frag) : Sp := fun vs H Q _ => ∃ (a : Addr) (ns : List Int), vs = [.ref a] ∧ SqL K H a (ns.map V.int) ∧ TT K H ∧ ∀ H', Same H H' → Q (.bl true) H'
abbrev nLaw : List Str := ["_law_script", "_law_dice_here", "_law_many", "_law_pairs", "_law_net", "_law_settings", "_law_k", "_law_way_now", "_law_ends", "_law_stage", "_law_gates", "_law_row", "_law_tight", "_law_wide", "_law_calls", "_law_step", "_law_one", "_law_other", "_law_each", "_law_side", "_law_used", "_law_spot"]
theorem sc_law : FnScope nLaw ["_law_script"] (defScope dLaw) := ⟨rfl, rfl, rfl, by decide +kernel, rfl, by decide +kernel, by decide +kernel⟩
theorem b_law (T : Tx K mg) (U : LawUses P w K mg base) : BodyOk P w K mg base (dG "law" dLaw) 9 nLaw (spLaw K) := by
  refine (fun f cdv A outer s H vs Q E ec hr h => ?_)
  · obtain ⟨a, ns, rfl, ha, tt, k⟩ := h
    have nd := sc_law.nd
    refine ⟨_, (pss_cons (ps_for PassesOwn.never rfl (pi_list (pe_g U.rounds (hr.mono (by decide)) (by rfl) (pa_cons (pv 0) (pa_cons pe_int pa_nil)))) (pg_name (i := 1) nd rfl (Or.inl rfl))
      (pss_cons (ps_set (i := 2) nd rfl (.inl rfl) (pe_ix ix_seq (pe_lst (pa_cons pe_int (pa_cons pe_int (pa_cons pe_int pa_nil)))) (pe_g U.roll (hr.mono (by decide)) (by rfl) (pa_cons (pv 1) (pa_cons pe_int pa_nil))) (fun _ _ => rfl)))
      (pss_cons (ps_set (i := 3) nd rfl (.inr rfl) (pe_g U.part (hr.mono (by decide)) (by rfl) (pa_cons (pv 1) (pa_cons (pv 2) pa_nil))))
      (pss_cons (ps_asg (pe_tup (pa_cons (pe_g U.netOf (hr.mono (by decide)) (by rfl) (pa_cons (pv 2) pa_nil)) (pa_cons (pe_g U.sets (hr.mono (by decide)) (by rfl) (pa_cons (pv 3) pa_nil)) pa_nil))) (pg_tup rfl (pgs_cons (pg_name (i := 4) nd rfl (Or.inr rfl)) (pgs_cons (pg_name (i := 5) nd rfl (Or.inr rfl)) pgs_nil))))
      (pss_cons (ps_for PassesOwn.never rfl (pi_range1 (by rfl) T.range (pa_cons (pv 2) pa_nil)) (pg_name (i := 6) nd rfl (Or.inl rfl))
      (pss_cons (ps_set (i := 7) nd rfl (.inl rfl) (pe_m U.way T.net (hr.mono (by decide)) (pv 4) (pa_cons (pv 5) (pa_cons (pv 6) pa_nil))))
      (pss_one (ps_if (PW.pt (pw_and (pt_cmpR op_notN (pe_ix ix_seq (pv 3) (pv 6) (fun _ _ => rfl)) pe_non (nomark _)) (pw_and1 (pt_cmpR op_ne (pe_ix ix_seq (pv 7) (pe_op op_subE (pe_callB call_lenE (by rfl) T.len PySem.boot_len (pa_cons (pv 7) pa_nil)) pe_int) (fun _ _ => rfl)) (pe_ix ix_seq (pv 3) (pv 6) (fun _ _ => rfl)) (nomark _))))) (pss_one ps_never) pss_nil))))
      (pss_cons (ps_setLc (i := 8) (own := [("_law_k", 6)]) (g := gName 6) (tt := tYes) rfl nd rfl rfl (sw_true rfl rfl rfl (by decide +kernel)) (pi_range1 (by rfl) T.range (pa_cons (pv 2) pa_nil)) (blkOk_by (N := nLaw) (sc := defScope dLaw) (by decide +kernel)) (fun _ _ _ _ _ => (pg_name (i := 6) nd rfl (Or.inl rfl))) (fun _ _ _ _ _ => pts_nil) (fun _ _ _ _ _ => (pe_ix (r := rIx K) ix_seq (pe_m U.way T.net (hr.mono (by decide)) (pv 4) (pa_cons (pv 5) (pa_cons (pv 6) pa_nil))) (pe_m0 U.stages T.net (hr.mono (by decide)) (pv 4)) (fun _ _ => rfl))))
      (pss_cons (ps_if (pt_cmpR (op_neN hr.units) (pe_callB cr_sorted (by rfl) T.sorted (by rfl) (pa_cons (pv 8) pa_nil)) (pe_listRg rfl (by rfl) T.list (prg_1 (by rfl) T.range (pv 2))) (nomark _)) (pss_one ps_never) pss_nil)
      (pss_cons (ps_for PassesOwn.never rfl (pi_range1 (by rfl) T.range (pa_cons (pe_m0 U.stages T.net (hr.mono (by decide)) (pv 4)) pa_nil)) (pg_name (i := 9) nd rfl (Or.inr rfl))
      (pss_one (ps_if (pt_cmpR (op_neN hr.units) (pe_callB cr_sorted (by rfl) T.sorted (by rfl) (pa_cons (pe_lc (own := [("_law_k", 6)]) (g := gName 6) (tt := tYes) rfl nd (pi_range1 (by rfl) T.range (pa_cons (pv 2) pa_nil)) (blkOk_by (N := nLaw) (sc := defScope dLaw) (by decide +kernel)) (fun _ _ _ _ _ => (pg_name (i := 6) nd rfl (Or.inl rfl))) (fun _ _ _ _ _ => pts_nil) (fun _ _ _ _ _ => (pe_ix (r := rIx K) ix_seq (pe_m U.way T.net (hr.mono (by decide)) (pv 4) (pa_cons (pv 5) (pa_cons (pv 6) pa_nil))) (pv 9) (fun _ _ => rfl)))) pa_nil)) (pe_listRg rfl (by rfl) T.list (prg_1 (by rfl) T.range (pv 2))) (nomark _)) (pss_one ps_never) pss_nil)))
      (pss_cons (ps_set (i := 10) nd rfl (.inr rfl) (pe_ix ix_seq (pe_lst (pa_cons pe_int (pa_cons pe_int pa_nil))) (pe_g U.roll (hr.mono (by decide)) (by rfl) (pa_cons (pv 1) (pa_cons pe_int pa_nil))) (fun _ _ => rfl)))
      (pss_cons (ps_if (pt_cmpR (op_neR hr.units) (pe_lc (own := [("_law_row", 11)]) (g := gName 11) (te := (tTup (tCons (tOp (rIx K) (tVar 11) (tC (.int 0))) (tCons (tOp (rIx K) (tVar 11) (tC (.int 1))) tNil)))) (tt := tYes) rfl nd (pi_tup (pe_m0 U.shown T.clos (hr.mono (by decide)) (pe_g U.carried (hr.mono (by decide)) (by rfl) (pa_cons (pv 3) (pa_cons (pv 10) (pa_cons (pv 10) pa_nil)))))) (blkOk_by (N := nLaw) (sc := defScope dLaw) (by decide +kernel)) (fun _ _ _ _ _ => (pg_name (i := 11) nd rfl (Or.inl rfl))) (fun _ _ _ _ _ => pts_nil) (fun _ _ _ _ _ => (pe_tup (pa_cons (pe_ix ix_seq (pv 11) pe_int (fun _ _ => rfl)) (pa_cons (pe_ix ix_seq (pv 11) pe_int (fun _ _ => rfl)) pa_nil))))) (pe_lc (own := [("_law_k", 6)]) (g := gName 6) (te := (tTup (tCons (tVar 6) (tCons (tOp (rIx K) (tVar 3) (tVar 6)) tNil)))) (tt := (tTest (tOp rNN (tOp (rIx K) (tVar 3) (tVar 6)) (tC .non)))) rfl nd (pi_range1 (by rfl) T.range (pa_cons (pv 2) pa_nil)) (blkOk_by (N := nLaw) (sc := defScope dLaw) (by decide +kernel)) (fun _ _ _ _ _ => (pg_name (i := 6) nd rfl (Or.inl rfl))) (fun _ _ _ _ _ => pts_one (pt_cmpR op_notNN (pe_ix ix_seq (pv 3) (pv 6) (fun _ _ => rfl)) pe_non (nomark _))) (fun _ _ _ _ _ => (pe_tup (pa_cons (pv 6) (pa_cons (pe_ix ix_seq (pv 3) (pv 6) (fun _ _ => rfl)) pa_nil))))) (nomark _)) (pss_one ps_never) pss_nil)
      (pss_cons (ps_asg (pe_tup (pa_cons (pe_k U.clos (hr.mono (by decide)) (by rfl) (pa_cons (pv 10) (pa_cons (pv 10) (pa_cons (pe_op op_fdivE (pv 2) (pv 10)) pa_nil)))) (pa_cons (pe_k U.clos (hr.mono (by decide)) (by rfl) (pa_cons (pe_op op_subE (pe_op op_mulE pe_int (pv 10)) pe_int) (pa_cons (pv 10) (pa_cons (pe_op op_fdivE (pv 2) (pv 10)) pa_nil)))) (pa_cons pe_dnewK pa_nil)))) (pg_tup rfl (pgs_cons (pg_name (i := 12) nd rfl (Or.inl rfl)) (pgs_cons (pg_name (i := 13) nd rfl (Or.inl rfl)) (pgs_cons (pg_name (i := 14) nd rfl (Or.inr rfl)) pgs_nil)))))
      (pss_one (ps_for PassesOwn.never rfl (pi_range1 (by rfl) T.range (pa_cons (pe_g U.roll (hr.mono (by decide)) (by rfl) (pa_cons (pv 1) (pa_cons pe_int pa_nil))) pa_nil)) (pg_name (i := 15) nd rfl (Or.inl rfl))
      (pss_cons (ps_asg (pe_tup (pa_cons (pe_g U.roll (hr.mono (by decide)) (by rfl) (pa_cons (pv 1) (pa_cons (pv 2) pa_nil))) (pa_cons (pe_g U.roll (hr.mono (by decide)) (by rfl) (pa_cons (pv 1) (pa_cons (pv 2) pa_nil))) pa_nil))) (pg_tup rfl (pgs_cons (pg_name (i := 16) nd rfl (Or.inr rfl)) (pgs_cons (pg_name (i := 17) nd rfl (Or.inl rfl)) pgs_nil))))
      (Evl.pss_cut (ps_if (pt_cmp (pc_din (u1 hr) (pv 16) (pv 14)))
      (pss_cons (ps_expr (pe_m U.endM T.clos (hr.mono (by decide)) (pv 12) (pa_cons (pv 16) pa_nil)))
      (pss_cons (ps_expr (pe_m U.endM T.clos (hr.mono (by decide)) (pv 13) (pa_cons (pv 16) pa_nil)))
      (pss_one (ps_set (i := 14) nd rfl (.inr rfl) (pe_callTy (call_dictP rfl) (by rfl) T.dict (by decide +kernel) (pa_cons (pe_lock (pe_lc (own := [("_law_k", 6)]) (g := gName 6) (te := (tTup (tCons (tVar 6) (tCons (tDGet (tVar 14) (tVar 6)) tNil)))) (tt := (tTest (tOp rNe (tVar 6) (tVar 16)))) rfl nd (pi_keys (pv 14)) (blkOk_by (N := nLaw) (sc := defScope dLaw) (by decide +kernel)) (fun _ _ _ _ _ => (pg_name (i := 6) nd rfl (Or.inl rfl))) (fun _ _ _ _ _ => pts_one (pt_cmpR op_ne (pv 6) (pv 16) (nomark _))) (fun _ _ _ _ _ => (pe_tup (pa_cons (pv 6) (pa_cons (pe_dget (u1 hr) (pv 14) (pv 6) (fun _ _ => rfl)) pa_nil)))))) pa_nil))))))
      (pss_one (ps_if (pt_cmpR op_notIn_seq (pv 17) (pe_lock (pe_lc (own := [("_law_k", 6)]) (g := gName 6) (tt := tYes) rfl nd (pi_keys (pv 14)) (blkOk_by (N := nLaw) (sc := defScope dLaw) (by decide +kernel)) (fun _ _ _ _ _ => (pg_name (i := 6) nd rfl (Or.inl rfl))) (fun _ _ _ _ _ => pts_nil) (fun _ _ _ _ _ => (pe_dget (u1 hr) (pv 14) (pv 6) (fun _ _ => rfl))))) (by rfl)) (pss_cons (ps_dput (u1 hr) (pv 14) (pv 16) (pv 17) rfl)
      (pss_cons (ps_expr (pe_m U.put T.clos (hr.mono (by decide)) (pv 12) (pa_cons (pv 16) (pa_cons (pv 17) pa_nil))))
      (pss_one (ps_if (pt_cmpR (op_neE hr.units) (pe_m U.put T.clos (hr.mono (by decide)) (pv 13) (pa_cons (pv 16) (pa_cons (pv 17) pa_nil))) (pe_tup pa_nil) (nomark _)) (pss_one ps_never) pss_nil)))) pss_nil)))
      (pss_one (ps_for PassesOwn.never rfl (pi_list (pe_lst (pa_cons (pv 12) (pa_cons (pv 13) pa_nil)))) (pg_name (i := 18) nd rfl (Or.inl rfl))
      (pss_cons (ps_if (PW.pt (pw_or (pt_cmpR (op_neR hr.units) (pe_lc (own := [("_law_row", 11)]) (g := gName 11) (te := (tTup (tCons (tOp (rIx K) (tVar 11) (tC (.int 0))) (tCons (tOp (rIx K) (tVar 11) (tC (.int 1))) tNil)))) (tt := tYes) rfl nd (pi_tup (pe_m0 U.shown T.clos (hr.mono (by decide)) (pv 18))) (blkOk_by (N := nLaw) (sc := defScope dLaw) (by decide +kernel)) (fun _ _ _ _ _ => (pg_name (i := 11) nd rfl (Or.inl rfl))) (fun _ _ _ _ _ => pts_nil) (fun _ _ _ _ _ => (pe_tup (pa_cons (pe_ix ix_seq (pv 11) pe_int (fun _ _ => rfl)) (pa_cons (pe_ix ix_seq (pv 11) pe_int (fun _ _ => rfl)) pa_nil))))) (pe_callB (cr_sortedII rfl) (by rfl) T.sorted (by rfl) (pa_cons (pe_bm0 PySem.F.plainAttrs_dict PySem.F.slot_dict_items PySem.F.type_dict_items mt_itemsK (pv 14)) pa_nil)) (nomark _)) (pw_or1 (pt_not (pt_val (pe_m0 U.sound T.clos (hr.mono (by decide)) (pv 18))))))) (pss_one ps_never) pss_nil)
      (pss_one (ps_for PassesOwn.never rfl (pi_range1 (by rfl) T.range (pa_cons pe_int pa_nil)) (pg_name (i := 19) nd rfl (Or.inr rfl))
      (pss_cons (ps_setLc (i := 20) (own := [("_law_row", 11)]) (g := gName 11) (te := (tTup (tCons (tOp (rEC CDiv fun i j => i / j) (tOp (rIx K) (tVar 11) (tVar 19)) (tVar 10)) (tCons (tOp (rIx K) (tVar 11) (tC (.int 2))) tNil)))) (tt := tYes) rfl nd rfl rfl (sw_true rfl rfl rfl (by decide +kernel)) (pi_tup (pe_m0 U.shown T.clos (hr.mono (by decide)) (pv 18))) (blkOk_by (N := nLaw) (sc := defScope dLaw) (by decide +kernel)) (fun _ _ _ _ _ => (pg_name (i := 11) nd rfl (Or.inl rfl))) (fun _ _ _ _ _ => pts_nil) (fun _ _ _ _ _ => (pe_tup (pa_cons (pe_op op_fdivE (pe_ix ix_seq (pv 11) (pv 19) (fun _ _ => rfl)) (pv 10)) (pa_cons (pe_ix ix_seq (pv 11) pe_int (fun _ _ => rfl)) pa_nil)))))
      (pss_one (ps_if (pt_cmpR op_ne (pe_callB call_len_dT (by rfl) T.len PySem.boot_len (pa_cons (pe_callTy (call_dictTD hr.units rfl) (by rfl) T.dict (by decide +kernel) (pa_cons (pe_lc (own := [("_law_spot", 21)]) (g := gName 21) (tt := tYes) rfl nd (pi_list (pv 20)) (blkOk_by (N := nLaw) (sc := defScope dLaw) (by decide +kernel)) (fun _ _ _ _ _ => (pg_name (i := 21) nd rfl (Or.inl rfl))) (fun _ _ _ _ _ => pts_nil) (fun _ _ _ _ _ => (pe_tup (pa_cons (pv 21) (pa_cons pe_int pa_nil))))) pa_nil)) pa_nil)) (pe_callB call_len_seq (by rfl) T.len PySem.boot_len (pa_cons (pv 20) pa_nil)) (nomark _)) (pss_one ps_never) pss_nil)))))))))))))))))))))))
      (pss_one (ps_ret pe_bl))), ?_⟩
    -- the one round
    refine ⟨_, rfl, a, ns, rfl, ha, fun pR d G H1 sG sG1 nd0 hd hpR pRd => ⟨pR, rfl, ⟨_, SqL.of hpR⟩, ?_⟩⟩
    have sH1 : Same H H1 := sG.trans sG1
    have hdN : H d = none := sG.free nd0
    have sB : Same H (wo H1 d) := same_wo sH1 hdN
    have pRB : wo H1 d pR = some (.lst [V.ref d]) := (wo_ne pRd).trans hpR
    refine for_it (walk_list (xs := [V.ref d])) (fun i σ H2 => (i = 0 ∧ σ = start nLaw [V.ref a] ∧ H2 = H1) ∨ (i = 1 ∧ Same (wo H1 d) H2)) (.inl ⟨rfl, rfl, rfl⟩) (fun i σ H2 _ p => ?_) (fun i x σ H2 H3 hi p y => ?_) (fun σ H2 p => ?_)
    · rcases p with ⟨_, _, rfl⟩ | ⟨_, s⟩
      · exact SqL.of hpR
      · exact SqL.of (s _ _ pRB)
    · have hi : i < 1 := hi
      rcases p with ⟨rfl, rfl, rfl⟩ | ⟨z, _⟩
      rotate_left
      · omega
      obtain ⟨rfl, hx⟩ := y
      have hx : x = .ref d := (Option.some.inj hx).symm
      subst hx
      have D0 : Di (wo H3 d) H3 d := ⟨wo_same _ _, wo_self _ _, hd⟩
      have ttB : TT K (wo H3 d) := tt.same sB
      -- many
      refine ⟨show 3 ≤ sizeLine by decide, fun L1 nL1 => ?_⟩
      have q1 := same_upd (o := .lst [V.int 2, V.int 4, V.int 8]) nL1
      have hL1 : upd H3 L1 (.lst [V.int 2, V.int 4, V.int 8]) L1 = some (.lst ([2, 4, 8].map nv)) := upd_same
      have D1 := D0.keep q1
      have L1d : L1 ≠ d := by
        obtain ⟨xs, hx⟩ := D0.lst
        exact Ne.symm (ne_of_none hx nL1)
      generalize upd H3 L1 (.lst [V.int 2, V.int 4, V.int 8]) = H4 at *
      refine ⟨_, rfl, d, 3, rfl, D1.at_, by decide, by decide, fun r x y z hr3 => ?_⟩
      have D2 := D1.roll x y z
      refine .inl ⟨L1, _, _, _, rfl, rfl, SqL.of (by rw [upd_ne L1d]; exact hL1), at_nv (fs := [2, 4, 8]) (i := r) hr3, ?_⟩
      generalize upd H4 d (.lst [V.int x, V.int y, V.int z]) = H5 at *
      obtain ⟨l, hl, hml⟩ : ∃ l, l < 3 ∧ at0 [2, 4, 8] r = 2 ^ (l + 1) := by
        match r, hr3 with
        | 0, _ => exact ⟨0, by decide, rfl⟩
        | 1, _ => exact ⟨1, by decide, rfl⟩
        | 2, _ => exact ⟨2, by decide, rfl⟩
      generalize hmany : at0 [2, 4, 8] r = many at *
      have m28 : 2 ≤ many ∧ many ≤ 8 ∧ many % 2 = 0 := by
        match l, hl with
        | 0, _ => omega
        | 1, _ => omega
        | 2, _ => omega
      obtain ⟨m2, m8, mev⟩ := m28
      -- pairs
      refine ⟨_, rfl, _, rfl, wo H3 d, d, many, rfl, D2, by omega, by omega, fun pP H6 ps D6 hps va => ?_⟩
      have pPd : pP ≠ d := by
        obtain ⟨xs, hx⟩ := D6.lst
        exact fun z => by rw [z, hx] at hps; cases hps
      have D6w := D6.wide
      have sB6 : Same (wo H3 d) (wo H6 d) := same_wo D6.same D6.fresh
      have ttB6 : TT K (wo H6 d) := ttB.same sB6
      have hpsB : wo H6 d pP = some (.tup (ps.map ov)) := (wo_ne pPd).trans hps
      have tt6 : TT K H6 := ttB6.same (wo_same _ _)
      -- net, settings
      refine ⟨_, rfl, l, by rw [hml]; rfl, hl, by decide, tt6, fun o H7 s7 no N => ?_⟩
      refine ⟨_, rfl, pP, ps, l, rfl, s7 _ _ hps, by rw [← hml]; exact va, hl, by decide, tt6.same s7, fun S H8 ss s8 kS hS => ?_⟩
      refine ⟨show 2 ≤ sizeLine by decide, fun t0 nt0 => ?_⟩
      have q9 := same_upd (o := .tup [V.ref o, V.ref S]) nt0
      have ht0 : upd H8 t0 (.tup [V.ref o, V.ref S]) t0 = some (.tup [V.ref o, V.ref S]) := upd_same
      refine ⟨t0, _, rfl, SqT.of ht0, rfl, _, _, rfl, _, _, rfl, rfl, ?_⟩
      generalize upd H8 t0 (.tup [V.ref o, V.ref S]) = H9 at *
      have s69 : Same H6 H9 := (s7.trans s8).trans q9
      have N9 := (N.same s8).same q9
      have S9 := kS.at.same q9
      have ok := netOk l (by omega)
      have Ff : Full (fullOf ps) (2 ^ (l + 1)) := by rw [← hml]; exact full_of va
      obtain ⟨a1, b1, c1⟩ := sets_shape l _ _ Ff hS
      have lrows : (netRows (l + 1)).length = 2 * l + 2 := netRows_len l
      have so : SetOk (2 ^ (l + 1)) (netRows (l + 1)).length ss := ⟨by omega, fun r hr => by rw [b1 r hr, Nat.pow_succ]; omega, c1⟩
      have wlast := way_last l (fullOf ps) ss Ff hS
      have wfull := way_full (ss := ss) ok
      rw [← hml] at N9 ok Ff so wlast wfull
      generalize netRows (l + 1) = rows at *
      have tt9 : TT K H9 := tt6.same s69
      have hps9 := s69 _ _ hps
      have lway : ∀ k, (wayL rows ss k).length = 2 * l + 2 := fun k => by unfold wayL; rw [List.length_map, List.length_range]; omega
      have atw : ∀ k i, i < 2 * l + 2 → at0 (wayL rows ss k) i = wayP rows ss k i := fun k i hi => at0_map (by omega)
      obtain ⟨dxo, Wo, rso, hoo, _, _⟩ := id N9
      have enat : ((many : Nat) : Int).toNat = many := by omega
      -- the ways
      refine ⟨_, rfl, _, rfl, by omega, by omega, ?_⟩
      refine for_it walk_range (fun i σ G1 => (∃ x6 x7 x8 x9 x10 x11 x12 x13 x14 x15 x16 x17 x18 x19 x20 x21, σ = [some (.ref a), some (.ref d), some (nv many), some (.ref pP), some (.ref o), some (.ref S), x6, x7, x8, x9, x10, x11, x12, x13, x14, x15, x16, x17, x18, x19, x20, x21]) ∧ Same H9 G1) ⟨⟨_, _, _, _, _, _, _, _, _, _, _, _, _, _, _, _, rfl⟩, Same.refl _⟩ (fun _ _ _ _ _ => trivial) (fun k x σ G1 G2 hk p y => ?_) (fun σ G1 p => ?_)
      · obtain ⟨⟨x6, x7, x8, x9, x10, x11, x12, x13, x14, x15, x16, x17, x18, x19, x20, x21, rfl⟩, sg⟩ := p
        obtain ⟨rfl, hx⟩ := y
        have hx : x = nv k := by rw [hx]; show V.int _ = V.int _; rw [Int.zero_add]
        subst hx
        have hk : k < many := by omega
        have lk : k < ps.length := by rw [va.len]; exact hk
        refine ⟨_, rfl, o, dxo, _, rfl, sg _ _ hoo, nF_way, _, rfl, _, rfl, o, S, many, k, rows, ss, rfl, hk, N9.same sg, ok, S9.same sg, so, tt9.same sg, fun pw G3 s3 npw hpw => ?_⟩
        have sg3 := sg.trans s3
        refine ⟨_, rfl, _, rfl, .inr (.inl ⟨pP, _, _, _, rfl, rfl, SqT.of (sg3 _ _ hps9), ov_at lk, rfl, _, rfl, ?_⟩)⟩
        cases e : hA ps k with
        | none =>
          refine iteF (iteF ?_)
          exact ⟨⟨_, _, _, _, _, _, _, _, _, _, _, _, _, _, _, _, rfl⟩, sg3⟩
        | some gg =>
          have ogg := ov_at lk
          rw [e] at ogg
          refine iteT ?_
          refine ⟨_, rfl, _, rfl, pw, _, nv (2 * l + 2), rfl, .inr (SqT.of hpw), by rw [List.length_map, lway]; rfl, _, _, nv (2 * l + 1), rfl, rfl, ?_, .inr (.inl ⟨pw, _, _, _, rfl, rfl, SqT.of hpw, at_nv (i := 2 * l + 1) (by rw [lway]; omega), _, rfl, _, rfl, .inr (.inl ⟨pP, _, _, _, rfl, rfl, SqT.of (sg3 _ _ hps9), ogg, rfl, _, rfl, ?_⟩)⟩)⟩
          · show V.int (((2 * l + 2 : Nat) : Int) - 1) = V.int ((2 * l + 1 : Nat) : Int)
            congr 1
            omega
          · refine iteNS ?_ ?_
            · rw [atw k _ (by omega), wlast k hk, fullOf_at (by rw [hA_get lk, e])]
              rfl
            · exact ⟨⟨_, _, _, _, _, _, _, _, _, _, _, _, _, _, _, _, rfl⟩, sg3⟩
      obtain ⟨⟨x6, x7, x8, x9, x10, x11, x12, x13, x14, x15, x16, x17, x18, x19, x20, x21, rfl⟩, sg⟩ := p
      have hl1 : rows.length - 1 = 2 * l + 1 := by omega
      -- the ends
      refine ⟨_, rfl, _, rfl, by omega, by omega, fun D1 nD1 => ?_⟩
      refine lc_it walk_range (LcP G1 D1 fun i => ((List.range i).map fun k => wayP rows ss k (2 * l + 1)).map nv) (lc_start nD1 rfl) (fun _ _ _ _ => trivial) (fun k x G2 G3 hk p y => ?_) (fun G2 p => ?_)
      · obtain ⟨rfl, hx⟩ := y
        have hx : x = nv k := by rw [hx]; show V.int _ = V.int _; rw [Int.zero_add]
        subst hx
        have hk : k < many := by omega
        have s3 := sg.trans p.1
        refine ⟨rfl, tyes ?_⟩
        refine ⟨_, rfl, o, dxo, _, rfl, s3 _ _ hoo, nF_way, _, rfl, _, rfl, o, S, many, k, rows, ss, rfl, hk, N9.same s3, ok, S9.same s3, so, tt9.same s3, fun pw G4 s4 npw hpw => ?_⟩
        refine ⟨_, rfl, o, dxo, _, rfl, s4 _ _ (s3 _ _ hoo), nF_stages, o, many, rows, rfl, (N9.same s3).same s4, by omega, .inr (.inl ⟨pw, _, _, _, rfl, rfl, SqT.of hpw, at_nv (i := rows.length - 1) (by rw [lway]; omega), ?_⟩)⟩
        refine lc_put nD1 p s4 ?_ (by rw [List.length_map, List.length_map, List.length_range]; omega)
        rw [rmap_succ, List.map_append, hl1, atw k _ (by omega)]
        rfl
      obtain ⟨sE, hE⟩ := p
      have sg := sg.trans sE
      have hE : G2 D1 = some (.lst ((((List.range many).map fun k => wayP rows ss k (2 * l + 1)).map fun (n : Nat) => (n : Int)).map V.int)) := by
        refine hE.trans ?_
        show some (HO.lst (((List.range ((many : Nat) : Int).toNat).map fun k => wayP rows ss k (2 * l + 1)).map nv)) = _
        rw [enat, List.map_map (l := (List.range many).map fun k => wayP rows ss k (2 * l + 1))]
        rfl
      refine ⟨_, rfl, D1, _, rfl, SqL.of hE, by rw [List.length_map, List.length_map, List.length_range]; omega, fun ns' p pn sn np => ?_⟩
      obtain ⟨us, eu, pu, su⟩ := sorted_nat pn
      have eus : us = List.range many := sorted_range (pu.trans (full_perm (wfull (2 * l + 1) (by omega)))) (su sn)
      rw [eus] at eu
      have qp := same_upd (o := .lst ((List.range many).map nv)) np
      refine ⟨_, rfl, _, rfl, ⟨by omega, by omega, by omega, by omega, by omega⟩, fun qr nqr => ?_⟩
      rw [rgV_nat]
      rw [eu] at nqr ⊢
      have qq := same_upd (o := .lst ((List.range many).map nv)) nqr
      refine ⟨p, qr, List.range many, rfl, rfl, qq _ _ upd_same, upd_same, _, rfl, iteF ?_⟩
      have sg := (sg.trans qp).trans qq
      generalize upd (upd G2 p (.lst ((List.range many).map nv))) qr (.lst ((List.range many).map nv)) = G3 at *
      -- the stages
      refine ⟨_, rfl, o, dxo, _, rfl, sg _ _ hoo, nF_stages, o, many, rows, rfl, N9.same sg, by omega, _, rfl, by omega, by omega, ?_⟩
      refine for_it walk_range (fun i σ G1 => (∃ x6 x7 x8 x9 x10 x11 x12 x13 x14 x15 x16 x17 x18 x19 x20 x21, σ = [some (.ref a), some (.ref d), some (nv many), some (.ref pP), some (.ref o), some (.ref S), x6, x7, x8, x9, x10, x11, x12, x13, x14, x15, x16, x17, x18, x19, x20, x21]) ∧ Same H9 G1) ⟨⟨_, _, _, _, _, _, _, _, _, _, _, _, _, _, _, _, rfl⟩, sg⟩ (fun _ _ _ _ _ => trivial) (fun st x σ G4 G5 hst p y => ?_) (fun σ G4 p => ?_)
      · obtain ⟨⟨x6, x7, x8, x9, x10, x11, x12, x13, x14, x15, x16, x17, x18, x19, x20, x21, rfl⟩, sg⟩ := p
        obtain ⟨rfl, hx⟩ := y
        have hx : x = nv st := by rw [hx]; show V.int _ = V.int _; rw [Int.zero_add]
        subst hx
        have hst : st < 2 * l + 2 := by omega
        refine ⟨_, rfl, _, rfl, by omega, by omega, fun D2 nD2 => ?_⟩
        refine lc_it walk_range (LcP G5 D2 fun i => ((List.range i).map fun k => wayP rows ss k st).map nv) (lc_start nD2 rfl) (fun _ _ _ _ => trivial) (fun k x G2 G3 hk p y => ?_) (fun G2 p => ?_)
        · obtain ⟨rfl, hx⟩ := y
          have hx : x = nv k := by rw [hx]; show V.int _ = V.int _; rw [Int.zero_add]
          subst hx
          have hk : k < many := by omega
          have s3 := sg.trans p.1
          refine ⟨rfl, tyes ?_⟩
          refine ⟨_, rfl, o, dxo, _, rfl, s3 _ _ hoo, nF_way, _, rfl, _, rfl, o, S, many, k, rows, ss, rfl, hk, N9.same s3, ok, S9.same s3, so, tt9.same s3, fun pw G4 s4 npw hpw => ?_⟩
          refine ⟨_, rfl, .inr (.inl ⟨pw, _, _, _, rfl, rfl, SqT.of hpw, at_nv (i := st) (by rw [lway]; omega), ?_⟩)⟩
          refine lc_put nD2 p s4 ?_ (by rw [List.length_map, List.length_map, List.length_range]; omega)
          rw [rmap_succ, List.map_append, atw k _ hst]
          rfl
        obtain ⟨sE, hE⟩ := p
        have sg := sg.trans sE
        have hE : G2 D2 = some (.lst ((((List.range many).map fun k => wayP rows ss k st).map fun (n : Nat) => (n : Int)).map V.int)) := by
          refine hE.trans ?_
          show some (HO.lst (((List.range ((many : Nat) : Int).toNat).map fun k => wayP rows ss k st).map nv)) = _
          rw [enat, List.map_map (l := (List.range many).map fun k => wayP rows ss k st)]
          rfl
        refine ⟨D2, _, rfl, SqL.of hE, by rw [List.length_map, List.length_map, List.length_range]; omega, fun ns' p pn sn np => ?_⟩
        obtain ⟨us, eu, pu, su⟩ := sorted_nat pn
        have eus : us = List.range many := sorted_range (pu.trans (full_perm (wfull st (by omega)))) (su sn)
        rw [eus] at eu
        have qp := same_upd (o := .lst ((List.range many).map nv)) np
        refine ⟨_, rfl, _, rfl, ⟨by omega, by omega, by omega, by omega, by omega⟩, fun qr nqr => ?_⟩
        rw [rgV_nat]
        rw [eu] at nqr ⊢
        have qq := same_upd (o := .lst ((List.range many).map nv)) nqr
        refine ⟨p, qr, List.range many, rfl, rfl, qq _ _ upd_same, upd_same, _, rfl, iteF ?_⟩
        exact ⟨⟨_, _, _, _, _, _, _, _, _, _, _, _, _, _, _, _, rfl⟩, (sg.trans qp).trans qq⟩
      obtain ⟨⟨x6, x7, x8, x9, x10, x11, x12, x13, x14, x15, x16, x17, x18, x19, x20, x21, rfl⟩, sg⟩ := p
      -- gates
      have D10 := D6w.keep (s69.trans sg)
      refine ⟨show 2 ≤ sizeLine by decide, fun L2 nL2 => ?_⟩
      have q1 := same_upd (o := .lst [V.int 1, V.int 2]) nL2
      have hL2 : upd G4 L2 (.lst [V.int 1, V.int 2]) L2 = some (.lst ([1, 2].map nv)) := upd_same
      have D11 := D10.keep q1
      have L2d : L2 ≠ d := by
        obtain ⟨xs, hx⟩ := D10.lst
        exact Ne.symm (ne_of_none hx nL2)
      generalize upd G4 L2 (.lst [V.int 1, V.int 2]) = G5 at *
      refine ⟨_, rfl, d, 2, rfl, D11.at_, by decide, by decide, fun r2 x y z hr2 => ?_⟩
      have D12 := D11.roll x y z
      refine .inl ⟨L2, _, _, _, rfl, rfl, SqL.of (by rw [upd_ne L2d]; exact hL2), at_nv (fs := [1, 2]) (i := r2) hr2, ?_⟩
      generalize upd G5 d (.lst [V.int x, V.int y, V.int z]) = G6 at *
      obtain ⟨g, hg, hgr⟩ : ∃ g, (g = 1 ∨ g = 2) ∧ at0 [1, 2] r2 = g := by
        match r2, hr2 with
        | 0, _ => exact ⟨1, .inl rfl, rfl⟩
        | 1, _ => exact ⟨2, .inr rfl, rfl⟩
      rw [hgr]
      -- carried_net
      have hps12 := D12.same _ _ hpsB
      have ttw := ttB6.same D12.same
      refine ⟨_, rfl, _, rfl, _, rfl, pP, ps, many, g, rfl, hps12, va, hg, m2, m8, mev, ttw, fun o2 G7 Gc Dc2 es s7' st eio => ?_⟩
      obtain ⟨dx2, ho2⟩ := st.st
      refine ⟨o2, dx2, _, rfl, st.same _ _ ho2, kF_sh, Gc, o2, Dc2, _, es, rfl, st, fun psh G8 os ts s8' hsh hts pos sos => ?_⟩
      refine ⟨psh, rfl, ⟨_, SqT.of hsh⟩, fun DL nDL => ?_⟩
      have los : os.length ≤ 50 := by
        have := pos.length_eq
        rw [List.length_map] at this
        have := st.len
        omega
      refine lc_it walk_tup (LcT G8 DL fun i => (((os.take i).map fun k => [k, outOf es k]).map fun r => r.map nv)) (lcT_start nDL rfl) (fun i G9 _ p => SqT.of (p.1 _ _ hsh)) (fun i x G9 G10 hi p y => ?_) (fun G9 p => ?_)
      · obtain ⟨rfl, hx⟩ := y
        obtain ⟨tr, htr, rfl⟩ := ref_get hx
        obtain ⟨r0, hr1, hr2'⟩ := hts.row htr
        obtain ⟨q0, hq0, rfl⟩ := rows_get hr1
        rw [List.getElem?_map] at hq0
        obtain ⟨k0, hk0, rfl⟩ := Option.map_eq_some_iff.mp hq0
        refine ⟨rfl, tyes ?_⟩
        refine ⟨_, rfl, .inr (.inl ⟨tr, _, _, nv k0, rfl, rfl, SqT.of (p.1 _ _ hr2'), rfl, _, rfl, .inr (.inl ⟨tr, _, _, nv (outOf es k0), rfl, rfl, SqT.of (p.1 _ _ hr2'), rfl, show 2 ≤ sizeLine by decide, fun z nz => ?_⟩)⟩)⟩
        refine lcT_put nDL p nz ?_ ?_
        · rw [List.take_add_one, hk0, List.map_append, List.map_append]
          rfl
        · rw [List.length_map, List.length_map, List.length_take]
          omega
      obtain ⟨s9', ts1, hDL, hts1⟩ := p
      have hts1 : TupsAt G9 ts1 ((os.map fun k => [k, outOf es k]).map fun r => r.map nv) := by
        have e : (fun i => ((os.take i).map fun k => [k, outOf es k]).map fun r => r.map nv) (ts.map V.ref).length = (os.map fun k => [k, outOf es k]).map fun r => r.map nv := by
          show ((os.take (ts.map V.ref).length).map _).map _ = _
          rw [List.length_map, hts.length, List.length_map, List.length_map, List.take_length]
        exact e ▸ hts1
      have sR : Same G6 G9 := (s7'.trans s8').trans s9'
      refine ⟨_, rfl, _, rfl, by omega, by omega, fun DM nDM => ?_⟩
      refine lc_it walk_range (LcT G9 DM fun i => (((pairsUp ps i).map fun c => [c.1, c.2]).map fun r => r.map nv)) (lcT_start nDM rfl) (fun _ _ _ _ => trivial) (fun i x G10 G11 hi p y => ?_) (fun G10 p => ?_)
      · obtain ⟨rfl, hx⟩ := y
        have hx : x = nv i := by rw [hx]; show V.int _ = V.int _; rw [Int.zero_add]
        subst hx
        have hi : i < many := by omega
        have li : i < ps.length := by rw [va.len]; exact hi
        have hps13 := (sR.trans p.1) _ _ hps12
        have hsu := pairsUp_succ ps i
        have oi := ov_at li
        refine ⟨rfl, _, rfl, _, rfl, .inr (.inl ⟨pP, _, _, _, rfl, rfl, SqT.of hps13, oi, rfl, _, rfl, ?_⟩)⟩
        cases e : hA ps i with
        | none =>
          refine iteF ?_
          rw [e, List.append_nil] at hsu
          exact lcT_skip p (by rw [hsu])
        | some gg =>
          rw [e] at hsu oi
          refine iteT ?_
          refine ⟨_, rfl, _, rfl, _, rfl, .inr (.inl ⟨pP, _, _, _, rfl, rfl, SqT.of hps13, oi, show 2 ≤ sizeLine by decide, fun z nz => ?_⟩)⟩
          refine lcT_put nDM p nz ?_ ?_
          · rw [hsu, List.map_append, List.map_append]
            rfl
          · rw [List.length_map, List.length_map]
            have := pairsUp_len ps i
            omega
      obtain ⟨s10', ts2, hDM, hts2⟩ := p
      rw [enat] at hts2
      have erow : (os.map fun k => [k, outOf es k]) = (pairsUp ps many).map fun c => [c.1, c.2] := by
        have := os_pairs st.nd pos sos (List.Perm.of_eq eio.symm) (pairsUp_sorted ps many)
        rw [← this, List.map_map]
        rfl
      rw [erow] at hts1
      refine ⟨DL, DM, ts1, ts2, _, rfl, rfl, s10' _ _ hDL, hDM, hts1.same s10', hts2, _, rfl, iteF ?_⟩
      have D13 := D12.keep (sR.trans s10')
      -- the two nets and the dict
      have gn : g * (many / g) = many := by rcases hg with rfl | rfl <;> omega
      have ng1 : 1 ≤ many / g := by rcases hg with rfl | rfl <;> omega
      have ng8 : many / g ≤ 8 := by rcases hg with rfl | rfl <;> omega
      have pok1 : ParOk ⟨g, g, many / g⟩ := ⟨hg, by show 1 ≤ g; omega, by show g ≤ 3; omega, ng1, ng8⟩
      have pok2 : ParOk ⟨2 * g - 1, g, many / g⟩ := ⟨hg, by show 1 ≤ 2 * g - 1; omega, by show 2 * g - 1 ≤ 3; omega, ng1, ng8⟩
      refine ⟨_, rfl, _, rfl, _, rfl, _, rfl, _, _, nv (many / g), rfl, rfl, ⟨by omega, by omega⟩, rfl, fun t dxt nt ndt hnet => ?_⟩
      refine ⟨G10, t, dxt, ⟨g, g, many / g⟩, rfl, Same.up (same_upd ndt) nt, nt, upd_same, pok1, fun Gt Dt Ha sGt nDt stt => ⟨rfl, ?_⟩⟩
      have sHa := sGt.trans stt.same
      refine ⟨_, rfl, _, _, nv (2 * g), rfl, rfl, .inl ⟨by decide, by decide⟩, ?_, _, _, nv (2 * g - 1), rfl, rfl, ?_, _, rfl, _, rfl, _, rfl, _, _, nv (many / g), rfl, rfl, ⟨by omega, by omega⟩, rfl, fun w dxw nw ndw hnew => ?_⟩
      · show V.int ((2 : Int) * (g : Int)) = V.int ((2 * g : Nat) : Int)
        congr 1
      · show V.int (((2 * g : Nat) : Int) - 1) = V.int ((2 * g - 1 : Nat) : Int)
        congr 1
        omega
      refine ⟨Ha, w, dxw, ⟨2 * g - 1, g, many / g⟩, rfl, Same.up (same_upd ndw) nw, nw, upd_same, pok2, fun Gw Dw Hb sGw nDw stw => ⟨rfl, fun Dc nDc => ?_⟩⟩
      have sHb := sGw.trans stw.same
      refine ⟨show 3 ≤ sizeLine by decide, fun tt3 ntt3 => ?_⟩
      have qc := same_upd (o := .dK []) nDc
      have hDc : upd Hb Dc (.dK []) Dc = some (.dK (lcK [])) := upd_same
      generalize upd Hb Dc (.dK []) = Hc at *
      have qt := same_upd (o := .tup [V.ref t, V.ref w, V.ref Dc]) ntt3
      have htt3 : upd Hc tt3 (.tup [V.ref t, V.ref w, V.ref Dc]) tt3 = some (.tup [V.ref t, V.ref w, V.ref Dc]) := upd_same
      refine ⟨tt3, _, rfl, SqT.of htt3, rfl, _, _, rfl, _, _, rfl, _, _, rfl, rfl, ?_⟩
      generalize upd Hc tt3 (.tup [V.ref t, V.ref w, V.ref Dc]) = Hd at *
      obtain ⟨kt, hDt, _⟩ := stt.dict
      obtain ⟨kw, hDw, _⟩ := stw.dict
      have sAll : Same G10 Hd := ((sHa.trans sHb).trans qc).trans qt
      have LS0 : LS K (wo G10 d) Hd d t Dt w Dw Dc ⟨g, g, many / g⟩ ⟨2 * g - 1, g, many / g⟩ [] [] [] := by
        have D14 := D13.keep sAll
        have nDcG : G10 Dc = none := (sHa.trans sHb).free nDc
        have wn : ∀ b, G10 b = none → wo G10 d b = none := fun b hb => by
          unfold wo
          split
          · rfl
          · exact hb
        exact ⟨(wo_same _ _).trans sAll, wo_self _ _, wn _ nDt, wn _ (sHa.free nDw), wn _ nDcG, D14.at_, (stt.keep ((sHb.trans qc).trans qt)).self, (stw.keep (qc.trans qt)).self, qt _ _ hDc, ne_of_none hDt nDw, ne_of_none (sHb _ _ hDt) nDc, ne_of_none hDw nDc⟩
      have LM0 : ∀ q : Par, LM q [] [] := fun q => ⟨fun i j c h1 => (by simp [kC, eFind] at h1), fun e he => absurd he List.not_mem_nil, rfl⟩
      have LC0 : LcOk [] many := ⟨List.nodup_nil, List.nodup_nil, fun p hp => absurd hp List.not_mem_nil⟩
      have sBB : Same (wo H3 d) (wo G10 d) := same_wo ((sB6.trans D13.same)) (wo_self _ _)
      -- the steps
      refine ⟨_, rfl, d, 15, rfl, LS0.dice, by decide, by decide, fun r15 x y z hr15 => ?_⟩
      have LS1 := LS0.roll x y z
      generalize upd Hd d (.lst [V.int x, V.int y, V.int z]) = He0 at *
      refine ⟨_, rfl, by omega, by omega, ?_⟩
      refine for_it walk_range (fun i σ G1 => (∃ Dc x6 x7 x8 x9 x11 x15 x16 x17 x18 x19 x20 x21, σ = [some (.ref a), some (.ref d), some (nv many), some (.ref pP), some (.ref o), some (.ref S), x6, x7, x8, x9, some (nv g), x11, some (.ref t), some (.ref w), some (.ref Dc), x15, x16, x17, x18, x19, x20, x21] ∧
          ∃ est esw lc, LS K (wo G10 d) G1 d t Dt w Dw Dc ⟨g, g, many / g⟩ ⟨2 * g - 1, g, many / g⟩ est esw lc ∧ LM ⟨g, g, many / g⟩ est lc ∧ LM ⟨2 * g - 1, g, many / g⟩ esw lc ∧ LcOk lc many))
        ⟨Dc, _, _, _, _, _, _, _, _, _, _, _, _, rfl, [], [], [], LS1, LM0 _, LM0 _, LC0⟩ (fun _ _ _ _ _ => trivial) (fun sti x σ G1 G2 hsti p y => ?_) (fun σ G1 p => ?_)
      · obtain ⟨Dc, x6, x7, x8, x9, x11, x15, x16, x17, x18, x19, x20, x21, rfl, est, esw, lc, L, Mt, Mw, C⟩ := p
        obtain ⟨rfl, hx⟩ := y
        clear hx
        -- one, other
        refine ⟨_, rfl, _, rfl, d, many, rfl, L.dice, by omega, by omega, fun one y1 y2 y3 h1 => ?_⟩
        have L := L.roll y1 y2 y3
        generalize upd G2 d (.lst [V.int y1, V.int y2, V.int y3]) = G3 at *
        refine ⟨_, rfl, _, rfl, d, many, rfl, L.dice, by omega, by omega, fun other y1 y2 y3 h2 => ?_⟩
        have L := L.roll y1 y2 y3
        generalize upd G3 d (.lst [V.int y1, V.int y2, V.int y3]) = G4 at *
        refine ⟨show 2 ≤ sizeLine by decide, fun t2 nt2 => ?_⟩
        have ht2 : upd G4 t2 (.tup [nv one, nv other]) t2 = some (.tup [nv one, nv other]) := upd_same
        have L := L.alloc (same_upd (o := .tup [nv one, nv other]) nt2)
        refine ⟨t2, _, rfl, SqT.of ht2, rfl, _, _, rfl, _, _, rfl, rfl, ?_⟩
        generalize upd G4 t2 (.tup [nv one, nv other]) = G5 at *
        have hgn : ∀ q : Par, q = ⟨g, g, many / g⟩ ∨ q = ⟨2 * g - 1, g, many / g⟩ → q.g * q.s = many := fun q hq => by
          rcases hq with rfl | rfl
          · exact gn
          · exact gn
        have llc := C.len
        refine ⟨fun σ G1 => ∃ Dc x6 x7 x8 x9 x11 x15 x16 x17 x18 x19 x20 x21, σ = [some (.ref a), some (.ref d), some (nv many), some (.ref pP), some (.ref o), some (.ref S), x6, x7, x8, x9, some (nv g), x11, some (.ref t), some (.ref w), some (.ref Dc), x15, x16, x17, x18, x19, x20, x21] ∧
          ∃ est esw lc, LS K (wo G10 d) G1 d t Dt w Dw Dc ⟨g, g, many / g⟩ ⟨2 * g - 1, g, many / g⟩ est esw lc ∧ LM ⟨g, g, many / g⟩ est lc ∧ LM ⟨2 * g - 1, g, many / g⟩ esw lc ∧ LcOk lc many, ?_, ?_⟩
        · refine ⟨_, rfl, _, rfl, Dc, _, rfl, DGet.k (k := Sum.inl (one : Int)) L.dc, _, rfl, ?_⟩
          by_cases hm : one ∈ lc.map (·.1)
          · -- it ends
            obtain ⟨pq, hpq, hp1⟩ := List.mem_map.mp hm
            have vn : (valV (lcK lc) (Sum.inl (one : Int))).isSome = true := by
              have := lcK_get C.n1 hpq
              rw [hp1] at this
              rw [this]
              rfl
            rw [vn]
            refine iteT ?_
            obtain ⟨dxt, hot⟩ := L.ct.st
            refine ⟨_, rfl, t, dxt, _, rfl, L.ct.same _ _ hot, kF_end, _, rfl, wo G5 Dt, t, Dt, _, est, one, rfl, L.ct, fun z => eFind_none.mp z (by rw [Mt.keys]; exact hm), fun v G6 ct => ?_⟩
            have L := L.tight ct
            obtain ⟨dxw, how⟩ := L.cw.st
            refine ⟨_, rfl, w, dxw, _, rfl, L.cw.same _ _ how, kF_end, _, rfl, wo G6 Dw, w, Dw, _, esw, one, rfl, L.cw, fun z => eFind_none.mp z (by rw [Mw.keys]; exact hm), fun v G7 cw => ?_⟩
            have L := L.wide cw
            -- calls = dict(..)
            refine ⟨Dc, .dK (lcK lc), L.dc, trivial, fun od => ?_⟩
            have hDL : upd G7 Dc (.frz od (.dK (lcK lc))) Dc = some (.frz od (.dK (lcK lc))) := upd_same
            have lk := fun H1 => lock_keep (H1 := H1) (od := od) L.dc
            generalize upd G7 Dc (.frz od (.dK (lcK lc))) = HL at *
            refine ⟨_, rfl, Dc, od, rfl, .inl ⟨lcK lc, hDL, fun Dl nDl => ?_⟩⟩
            have llk : (lcK lc).length = lc.length := by unfold lcK; rw [List.length_map]
            refine lc_it walk_keys (LcT HL Dl fun i => ((lc.take i).filter fun p => !(p.1 == one)).map fun p => [nv p.1, nv p.2]) (lcT_start nDl rfl) (fun i H2 _ p => p.1 _ _ hDL) (fun i x H2 H3 hi p y => ?_) (fun H2 p => ?_)
            · obtain ⟨rfl, kk, vv, hkv, rfl⟩ := y
              rw [llk] at hi
              have hli : lc[i]? = some lc[i] := List.getElem?_eq_getElem hi
              have hkv' : (lcK lc)[i]? = some (Sum.inl (lc[i].1 : Int), nv lc[i].2) := by unfold lcK; rw [List.getElem?_map, hli]; rfl
              rw [hkv'] at hkv
              have e1 : (Sum.inl (lc[i].1 : Int) : Key) = kk := congrArg Prod.fst (Option.some.inj hkv)
              subst e1
              have tk : (lc.take (i + 1)).filter (fun p => !(p.1 == one)) = (lc.take i).filter (fun p => !(p.1 == one)) ++ (if (!(lc[i].1 == one)) = true then [lc[i]] else []) := by
                rw [List.take_add_one, hli, List.filter_append]
                congr 1
                show [lc[i]].filter _ = _
                rw [List.filter_cons, List.filter_nil]
              have hget := lcK_get C.n1 (List.getElem_mem hi)
              refine ⟨rfl, ?_⟩
              refine ⟨_, rfl, _, rfl, rfl, _, rfl, ?_⟩
              by_cases c1 : lc[i].1 = one
              · refine iteNS (by rw [c1]; rfl) ?_
                rw [if_neg (by simp [c1]), List.append_nil] at tk
                exact lcT_skip p (by rw [tk])
              · refine iteNT (fun z => c1 (by have z1 := V.int.inj z; omega)) ?_
                rw [if_pos (by simp [c1])] at tk
                refine ⟨_, rfl, _, rfl, _, rfl, Dc, _, rfl, .inl ⟨lcK lc, Sum.inl (lc[i].1 : Int), .inr ⟨od, p.1 _ _ hDL⟩, rfl, hget.symm⟩, show 2 ≤ sizeLine by decide, fun z nz => ?_⟩
                refine lcT_put nDl p nz ?_ ?_
                · rw [tk, List.map_append]
                  rfl
                · rw [List.length_map]
                  have h1 := List.length_filter_le (fun p : Nat × Nat => !(p.1 == one)) (lc.take i)
                  rw [List.length_take] at h1
                  omega
            · obtain ⟨sF, ts, hDl, hts⟩ := p
              have hts : TupsAt H2 ts ((lc.filter fun p => !(p.1 == one)).map fun p => [nv p.1, nv p.2]) := by
                have e : (fun i => ((lc.take i).filter fun p => !(p.1 == one)).map fun p => [nv p.1, nv p.2]) (lcK lc).length = (lc.filter fun p => !(p.1 == one)).map fun p => [nv p.1, nv p.2] := by
                  show ((lc.take (lcK lc).length).filter _).map _ = _
                  rw [llk, List.take_length]
                exact e ▸ hts
              have hF := sF _ _ hDL
              refine ⟨hF, ?_⟩
              have sU := lk _ sF
              have nDlD : Dl ≠ Dc := fun z => by rw [z, hDL] at nDl; cases nDl
              have hDl2 : upd H2 Dc (.dK (lcK lc)) Dl = some (.lst (ts.map V.ref)) := by rw [upd_ne nDlD]; exact hDl
              have hts2 : TupsAt (upd H2 Dc (.dK (lcK lc))) ts ((lc.filter fun p => !(p.1 == one)).map fun p => [nv p.1, nv p.2]) :=
                Paired.mapP hts fun tt r e => by rw [upd_ne (ne_of e hF (by intro z; cases z))]; exact e
              have L := L.alloc sU
              have M1 := Mt.end one
              have M2 := Mw.end one
              have C1 := C.end one
              have mk : mergeK [] (lcK (lc.filter fun p => !(p.1 == one))) = lcK (lc.filter fun p => !(p.1 == one)) := by
                rw [merge_apart _ _ (by rw [List.map_nil, List.nil_append]; exact lcK_nodup C1.n1), List.nil_append]
              refine ⟨Dl, ts, lcK (lc.filter fun p => !(p.1 == one)), rfl, SqL.of hDl2, ?_, fun Dn nDn => ?_⟩
              · unfold lcK
                exact paired_mapR hts2 fun aa xx e => SqT.of e
              · rw [mk]
                exact ⟨Dn, x6, x7, x8, x9, x11, _, _, _, _, _, _, _, rfl, _, _, _, L.newc nDn, M1, M2, C1⟩
          · have vn : valV (lcK lc) (Sum.inl (one : Int)) = none := lcK_none hm
            rw [vn]
            refine iteF ?_
            refine ⟨_, rfl, Dc, .dK (lcK lc), L.dc, trivial, fun od => ?_⟩
            have hDL : upd G5 Dc (.frz od (.dK (lcK lc))) Dc = some (.frz od (.dK (lcK lc))) := upd_same
            have lk := fun H1 => lock_keep (H1 := H1) (od := od) L.dc
            generalize upd G5 Dc (.frz od (.dK (lcK lc))) = HL at *
            refine ⟨_, rfl, Dc, od, rfl, .inl ⟨lcK lc, hDL, fun Dl nDl => ?_⟩⟩
            have llk : (lcK lc).length = lc.length := by unfold lcK; rw [List.length_map]
            refine lc_it walk_keys (LcP HL Dl fun i => ((lc.take i).map (·.2)).map nv) (lc_start nDl rfl) (fun i H2 _ p => p.1 _ _ hDL) (fun i x H2 H3 hi p y => ?_) (fun H2 p => ?_)
            · obtain ⟨rfl, kk, vv, hkv, rfl⟩ := y
              rw [llk] at hi
              have hli : lc[i]? = some lc[i] := List.getElem?_eq_getElem hi
              have hkv' : (lcK lc)[i]? = some (Sum.inl (lc[i].1 : Int), nv lc[i].2) := by unfold lcK; rw [List.getElem?_map, hli]; rfl
              rw [hkv'] at hkv
              have e1 : (Sum.inl (lc[i].1 : Int) : Key) = kk := congrArg Prod.fst (Option.some.inj hkv)
              subst e1
              have hget := lcK_get C.n1 (List.getElem_mem hi)
              refine ⟨rfl, tyes ?_⟩
              refine ⟨_, rfl, _, rfl, Dc, _, rfl, .inl ⟨lcK lc, Sum.inl (lc[i].1 : Int), .inr ⟨od, p.1 _ _ hDL⟩, rfl, hget.symm⟩, ?_⟩
              refine lc_put nDl p (Same.refl _) ?_ ?_
              · rw [List.take_add_one, hli, List.map_append, List.map_append]
                rfl
              · rw [List.length_map, List.length_map, List.length_take]
                omega
            · obtain ⟨sF, hDl⟩ := p
              have hDl : H2 Dl = some (.lst ((lc.map (·.2)).map nv)) := by
                refine hDl.trans ?_
                show some (HO.lst (((lc.take (lcK lc).length).map (·.2)).map nv)) = _
                rw [llk, List.take_length]
              have hF := sF _ _ hDL
              refine ⟨hF, ?_⟩
              have sU := lk _ sF
              have nDlD : Dl ≠ Dc := fun z => by rw [z, hDL] at nDl; cases nDl
              have L := L.alloc sU
              refine ⟨Dl, _, rfl, .inl (SqL.of (by rw [upd_ne nDlD]; exact hDl)), rfl, flat_nv _, _, rfl, ?_⟩
              show if (!inV (nv other) ((lc.map (·.2)).map nv)) = true then _ else _
              rw [inV_nv]
              generalize upd H2 Dc (.dK (lcK lc)) = G6 at *
              by_cases hoth : other ∈ lc.map (·.2)
              · refine iteNS hoth ?_
                exact ⟨Dc, x6, x7, x8, x9, x11, _, _, _, _, _, _, _, rfl, est, esw, lc, L, Mt, Mw, C⟩
              · refine iteNT hoth ?_
                have C1 := C.put hm hoth h1 h2
                have ep : putK (lcK lc) (Sum.inl (one : Int)) (nv other) = lcK (lc ++ [(one, other)]) := by
                  rw [putK_new _ vn]
                  unfold lcK
                  rw [List.map_append]
                  rfl
                have dp : DPut G6 Dc (nv one) (nv other) (upd G6 Dc (.dK (lcK (lc ++ [(one, other)])))) := by
                  rw [← ep]
                  exact DPut.k (k := Sum.inl (one : Int)) L.dc (small (by rw [llk]; omega))
                refine ⟨_, rfl, _, rfl, _, rfl, Dc, _, rfl, dp, ?_⟩
                have L := L.setc (lc' := lc ++ [(one, other)])
                generalize upd G6 Dc (.dK (lcK (lc ++ [(one, other)]))) = G7 at *
                have kt1 : one ∉ est.map (·.1) := by rw [Mt.keys]; exact hm
                have kt2 : other ∉ est.map (·.2.1) := by rw [Mt.outs]; exact hoth
                have kw1 : one ∉ esw.map (·.1) := by rw [Mw.keys]; exact hm
                have kw2 : other ∉ esw.map (·.2.1) := by rw [Mw.outs]; exact hoth
                have lt1 : est.length < 50 := by
                  have := congrArg List.length Mt.io
                  rw [List.length_map] at this
                  omega
                have lw1 : esw.length < 50 := by
                  have := congrArg List.length Mw.io
                  rw [List.length_map] at this
                  omega
                have nt2' : (est.map (·.2.1)).Nodup := by rw [Mt.outs]; exact C.n2
                have ndw1 := L.cw.nd
                have nw2' : (esw.map (·.2.1)).Nodup := by rw [Mw.outs]; exact C.n2
                have gtm := hgn ⟨g, g, many / g⟩ (.inl rfl)
                have gwm := hgn ⟨2 * g - 1, g, many / g⟩ (.inr rfl)
                obtain ⟨dxt, hot⟩ := L.ct.st
                refine ⟨_, rfl, t, dxt, _, rfl, L.ct.same _ _ hot, kF_pm, _, rfl, _, rfl, wo G7 Dt, t, Dt, _, est, one, other, rfl, L.ct, by rw [gtm]; exact h1, by rw [gtm]; exact h2, eFind_none.mpr kt1, kt2, Mt.snd, Mt.bd, lt1,
                  free_side hg L.ct.nd kt1 (Nat.le_refl g), free_side (f := fun e => e.2.1) hg nt2' kt2 (Nat.le_refl g), fun v G8 es1 ct S1 b1 io1 _ => ?_⟩
                have L := L.tight ct
                obtain ⟨dxw, how⟩ := L.cw.st
                refine ⟨_, rfl, w, dxw, _, rfl, L.cw.same _ _ how, kF_pm, _, rfl, _, rfl, wo G8 Dw, w, Dw, _, esw, one, other, rfl, L.cw, by rw [gwm]; exact h1, by rw [gwm]; exact h2, eFind_none.mpr kw1, kw2, Mw.snd, Mw.bd, lw1,
                  free_side hg L.cw.nd kw1 (by show g ≤ 2 * g - 1; omega), free_side (f := fun e => e.2.1) hg nw2' kw2 (by show g ≤ 2 * g - 1; omega), fun v G9 es2 cw S2 b2 io2 hv => ?_⟩
                have L := L.wide cw
                obtain ⟨pe, rfl, hpe⟩ := hv (free_wide hg ndw1 nw2' kw1 kw2)
                refine ⟨Nat.zero_le _, fun e ne => ?_⟩
                have qe := same_upd (o := .tup []) ne
                refine ⟨pe, e, rfl, rfl, qe _ _ hpe, upd_same, _, rfl, iteF ?_⟩
                exact ⟨Dc, x6, x7, x8, x9, x11, _, _, _, _, _, _, _, rfl, es1, es2, _, L.alloc qe, ⟨S1, b1, by rw [io1, Mt.io]⟩, ⟨S2, b2, by rw [io2, Mw.io]⟩, C1⟩
        · rintro σ' G6 ⟨Dc, x6, x7, x8, x9, x11, x15, x16, x17, x18, x19, x20, x21, rfl, est, esw, lc, L, Mt, Mw, C⟩
          -- each net
          refine ⟨_, rfl, _, rfl, show 2 ≤ sizeLine by decide, fun LL nLL => ?_⟩
          have qL := same_upd (o := .lst [V.ref t, V.ref w]) nLL
          have hLL : upd G6 LL (.lst [V.ref t, V.ref w]) LL = some (.lst [V.ref t, V.ref w]) := upd_same
          have L := L.alloc qL
          refine ⟨LL, rfl, ⟨_, SqL.of hLL⟩, ?_⟩
          generalize upd G6 LL (.lst [V.ref t, V.ref w]) = G7 at *
          refine for_it (walk_list (xs := [V.ref t, V.ref w])) (fun j σ G8 => (∃ x6 x7 x8 x9 x11 x15 x16 x17 x18 x19 x20 x21, σ = [some (.ref a), some (.ref d), some (nv many), some (.ref pP), some (.ref o), some (.ref S), x6, x7, x8, x9, some (nv g), x11, some (.ref t), some (.ref w), some (.ref Dc), x15, x16, x17, x18, x19, x20, x21]) ∧ Same G7 G8) ⟨⟨_, _, _, _, _, _, _, _, _, _, _, _, rfl⟩, Same.refl _⟩ (fun j σ G8 _ p => SqL.of (p.2 _ _ hLL)) (fun j x σ G8 G9 hj p y => ?_) (fun σ G8 p => ?_)
          · obtain ⟨⟨x6, x7, x8, x9, x11, x15, x16, x17, x18, x19, x20, x21, rfl⟩, s8⟩ := p
            obtain ⟨rfl, hx⟩ := y
            obtain ⟨oo, Dd, qq, es, Gx, rfl, st, M, hqg⟩ : ∃ (oo Dd : Addr) (qq : Par) (es : List Ent) (Gx : Hp), x = .ref oo ∧ ClosSt K Gx G9 oo Dd qq es ∧ LM qq es lc ∧ qq.g = g := by
              match j, hx with
              | 0, hx => exact ⟨t, Dt, _, est, _, (Option.some.inj hx).symm, L.ct.keep s8, Mt, rfl⟩
              | 1, hx => exact ⟨w, Dw, _, esw, _, (Option.some.inj hx).symm, L.cw.keep s8, Mw, rfl⟩
            have hdc := s8 _ _ L.dc
            obtain ⟨dxo2, hoo2⟩ := st.st
            -- shown against the dict's items
            refine ⟨_, rfl, oo, dxo2, _, rfl, st.same _ _ hoo2, kF_sh, Gx, oo, Dd, qq, es, rfl, st, fun psh G10 os ts s10 hsh hts pos sos => ?_⟩
            refine ⟨psh, rfl, ⟨_, SqT.of hsh⟩, fun DL nDL => ?_⟩
            have los : os.length ≤ 50 := by
              have := pos.length_eq
              rw [List.length_map] at this
              have := st.len
              omega
            refine lc_it walk_tup (LcT G10 DL fun i => (((os.take i).map fun k => [k, outOf es k]).map fun r => r.map nv)) (lcT_start nDL rfl) (fun i G11 _ p => SqT.of (p.1 _ _ hsh)) (fun i x G11 G12 hi p y => ?_) (fun G11 p => ?_)
            · obtain ⟨rfl, hx⟩ := y
              obtain ⟨tr, htr, rfl⟩ := ref_get hx
              obtain ⟨r0, hr1, hr2'⟩ := hts.row htr
              obtain ⟨q0, hq0, rfl⟩ := rows_get hr1
              rw [List.getElem?_map] at hq0
              obtain ⟨k0, hk0, rfl⟩ := Option.map_eq_some_iff.mp hq0
              refine ⟨rfl, tyes ?_⟩
              refine ⟨_, rfl, .inr (.inl ⟨tr, _, _, nv k0, rfl, rfl, SqT.of (p.1 _ _ hr2'), rfl, _, rfl, .inr (.inl ⟨tr, _, _, nv (outOf es k0), rfl, rfl, SqT.of (p.1 _ _ hr2'), rfl, show 2 ≤ sizeLine by decide, fun z nz => ?_⟩)⟩)⟩
              refine lcT_put nDL p nz ?_ ?_
              · rw [List.take_add_one, hk0, List.map_append, List.map_append]
                rfl
              · rw [List.length_map, List.length_map, List.length_take]
                omega
            obtain ⟨s11, ts1, hDL, hts1⟩ := p
            have hts1 : TupsAt G11 ts1 ((os.map fun k => [k, outOf es k]).map fun r => r.map nv) := by
              have e : (fun i => ((os.take i).map fun k => [k, outOf es k]).map fun r => r.map nv) (ts.map V.ref).length = (os.map fun k => [k, outOf es k]).map fun r => r.map nv := by
                show ((os.take (ts.map V.ref).length).map _).map _ = _
                rw [List.length_map, hts.length, List.length_map, List.length_map, List.take_length]
              exact e ▸ hts1
            have hdc11 := (s10.trans s11) _ _ hdc
            refine ⟨_, rfl, .inr (.inr (.inl ⟨rfl, .inl ⟨_, hdc11⟩⟩)), Dc, lcK lc, rfl, rfl, hdc11, fun pi npi => ?_⟩
            have qi := same_upd (o := itemsO pi Dc) npi
            refine ⟨pi, Dc, lc.map castP, rfl, upd_same, by rw [← lcK_cast]; exact qi _ _ hdc11, fun G12 l zs s12 pz sz hl2 hz => ?_⟩
            obtain ⟨zr, p1, p2, p3⟩ := zs_rows pz sz hz
            have erow : (os.map fun k => [k, outOf es k]) = zr.map fun p => [p.1, p.2] := by
              have := os_pairs st.nd pos sos (p1.trans (List.Perm.of_eq M.io.symm)) p2
              rw [← this, List.map_map]
              rfl
            rw [erow] at hts1
            have s1112 := qi.trans s12
            have s912 : Same G9 G12 := (s10.trans s11).trans s1112
            refine ⟨DL, l, ts1, zs.map (·.1), _, rfl, rfl, s1112 _ _ hDL, by rw [List.map_map]; exact hl2, hts1.same s1112, p3, _, rfl, iteF ?_⟩
            refine ⟨_, rfl, oo, dxo2, _, rfl, (st.keep s912).same _ _ hoo2, kF_is, Gx, oo, Dd, qq, es, rfl, st.keep s912, M.snd, fun G13 s13 => ⟨_, rfl, iteF ?_⟩⟩
            -- the two sides
            refine ⟨_, rfl, by omega, by omega, ?_⟩
            refine for_it walk_range (fun sd σ G14 => (∃ x6 x7 x8 x9 x11 x15 x16 x17 x19 x20 x21, σ = [some (.ref a), some (.ref d), some (nv many), some (.ref pP), some (.ref o), some (.ref S), x6, x7, x8, x9, some (nv g), x11, some (.ref t), some (.ref w), some (.ref Dc), x15, x16, x17, some (.ref oo), x19, x20, x21]) ∧ Same G9 G14) ⟨⟨_, _, _, _, _, _, _, _, _, _, _, rfl⟩, s912.trans s13⟩ (fun _ _ _ _ _ => trivial) (fun sd x σ G14 G15 hsd p y => ?_) (fun σ G14 p => ?_)
            · obtain ⟨⟨x6, x7, x8, x9, x11, x15, x16, x17, x19, x20, x21, rfl⟩, s14⟩ := p
              obtain ⟨rfl, hx⟩ := y
              have hx : x = nv sd := by rw [hx]; show V.int _ = V.int _; rw [Int.zero_add]
              subst hx
              have hsd : sd < 2 := hsd
              have st4 := st.keep s14
              refine ⟨_, rfl, oo, dxo2, _, rfl, st4.same _ _ hoo2, kF_sh, Gx, oo, Dd, qq, es, rfl, st4, fun psh G16 os ts s16 hsh hts pos sos => ?_⟩
              refine ⟨psh, rfl, ⟨_, SqT.of hsh⟩, fun DU nDU => ?_⟩
              have los : os.length ≤ 50 := by
                have := pos.length_eq
                rw [List.length_map] at this
                have := st.len
                omega
              refine lc_it walk_tup (LcT G16 DU fun i => (((os.take i).map fun k => (spotK qq es sd k).map kV))) (lcT_start nDU rfl) (fun i G17 _ p => SqT.of (p.1 _ _ hsh)) (fun i x G17 G18 hi p y => ?_) (fun G17 p => ?_)
              · obtain ⟨rfl, hx⟩ := y
                obtain ⟨tr, htr, rfl⟩ := ref_get hx
                obtain ⟨r0, hr1, hr2'⟩ := hts.row htr
                obtain ⟨q0, hq0, rfl⟩ := rows_get hr1
                rw [List.getElem?_map] at hq0
                obtain ⟨k0, hk0, rfl⟩ := Option.map_eq_some_iff.mp hq0
                have kin : k0 ∈ es.map (·.1) := pos.mem_iff.mp (List.mem_of_getElem? hk0)
                obtain ⟨sv, ea, ev⟩ : ∃ sv, atI ([k0, outOf es k0, numOf es k0].map nv) (sd : Int) = some (nv sv) ∧ sv / g = vS (kL qq) (kR qq es) sd k0 := by
                  match sd, hsd with
                  | 0, _ => exact ⟨k0, rfl, by show k0 / g = k0 / qq.g; rw [hqg]⟩
                  | 1, _ => exact ⟨outOf es k0, rfl, by show outOf es k0 / g = kR qq es k0; rw [kR_out kin, hqg]⟩
                refine ⟨rfl, tyes ?_⟩
                refine ⟨_, rfl, _, rfl, .inr (.inl ⟨tr, _, _, _, rfl, rfl, SqT.of (p.1 _ _ hr2'), ea, _, rfl, _, _, nv (sv / g), rfl, rfl, ⟨by omega, by omega⟩, rfl, _, rfl, .inr (.inl ⟨tr, _, _, nv (numOf es k0), rfl, rfl, SqT.of (p.1 _ _ hr2'), rfl, show 2 ≤ sizeLine by decide, fun z nz => ?_⟩)⟩)⟩
                rw [ev]
                refine lcT_put nDU p nz ?_ ?_
                · rw [List.take_add_one, hk0, List.map_append]
                  rfl
                · rw [List.length_map, List.length_take]
                  omega
              obtain ⟨s17, tu, hDU, htu⟩ := p
              have htu : TupsAt G17 tu (os.map fun k => (spotK qq es sd k).map kV) := by
                have e : (fun i => (os.take i).map fun k => (spotK qq es sd k).map kV) (ts.map V.ref).length = os.map fun k => (spotK qq es sd k).map kV := by
                  show (os.take (ts.map V.ref).length).map _ = _
                  rw [List.length_map, hts.length, List.length_map, List.length_map, List.take_length]
                exact e ▸ htu
              have ltu : tu.length = os.length := by rw [htu.length, List.length_map]
              refine ⟨_, rfl, DU, rfl, ⟨_, SqL.of hDU⟩, fun DV nDV => ?_⟩
              refine lc_it walk_list (LcT G17 DV fun i => (tu.take i).map fun z => [V.ref z, V.int 1]) (lcT_start nDV rfl) (fun i G18 _ p => SqL.of (p.1 _ _ hDU)) (fun i x G18 G19 hi p y => ?_) (fun G18 p => ?_)
              · obtain ⟨rfl, hx⟩ := y
                obtain ⟨tr, htr, rfl⟩ := ref_get hx
                refine ⟨rfl, tyes ?_⟩
                refine ⟨_, rfl, show 2 ≤ sizeLine by decide, fun z nz => ?_⟩
                refine lcT_put nDV p nz ?_ ?_
                · rw [List.take_add_one, htr, List.map_append]
                  rfl
                · rw [List.length_map, List.length_take]
                  omega
              obtain ⟨s18, tv, hDV, htv⟩ := p
              have htv : TupsAt G18 tv (tu.map fun z => [V.ref z, V.int 1]) := by
                have e : (fun i => (tu.take i).map fun z => [V.ref z, V.int 1]) (tu.map V.ref).length = tu.map fun z => [V.ref z, V.int 1] := by
                  show (tu.take (tu.map V.ref).length).map _ = _
                  rw [List.length_map, List.take_length]
                exact e ▸ htv
              refine ⟨DV, tv, (tu.zip os).map fun z => (spotK qq es sd z.2, z.1, V.int 1), rfl, SqL.of hDV, ?_, comb htv (htu.same s18), fun dd ndd => ?_⟩
              · rw [comb_keys ltu]
                exact spots_nodup st.nd pos M.snd
              · have qd := same_upd (o := .dT (((tu.zip os).map fun z => (spotK qq es sd z.2, z.1, V.int 1)).map fun e => (e.1, e.2.2))) ndd
                refine ⟨dd, _, rfl, upd_same, _, rfl, DU, _, rfl, .inl (SqL.of ((s18.trans qd) _ _ hDU)), rfl, _, rfl, ?_⟩
                refine iteNS ?_ ?_
                · rw [List.length_map, List.length_map, List.length_map, List.length_zip, ltu, Nat.min_self]
                · exact ⟨⟨_, _, _, _, _, _, _, _, _, _, _, rfl⟩, ((((s14.trans s16).trans s17).trans s18).trans qd)⟩
            · obtain ⟨⟨x6, x7, x8, x9, x11, x15, x16, x17, x19, x20, x21, rfl⟩, s14⟩ := p
              exact ⟨⟨_, _, _, _, _, _, _, _, _, _, _, _, rfl⟩, s8.trans s14⟩
          · obtain ⟨⟨x6, x7, x8, x9, x11, x15, x16, x17, x18, x19, x20, x21, rfl⟩, s8⟩ := p
            exact ⟨Dc, _, _, _, _, _, _, _, _, _, _, _, _, rfl, est, esw, lc, L.alloc s8, Mt, Mw, C⟩
      · obtain ⟨Dc, x6, x7, x8, x9, x11, x15, x16, x17, x18, x19, x20, x21, rfl, est, esw, lc, L, _⟩ := p
        exact .inr ⟨rfl, sBB.trans L.same⟩
    · rcases p with ⟨z, _⟩ | ⟨_, s⟩
      · cases z
      · exact k _ (sB.trans s)
end
end Ck
/-! ## text L61T -/
set_option Elab.async false
set_option linter.all false
set_option maxRecDepth 100000
set_option maxHeartbeats 4000000
namespace Ck
open PySem PySem.Spec PyProof.Rows L2
/-! ### all defs together -/
section
variable {P : Program} {w : World} {K : PySem.W.Frag} {mg : Str → Option Value} {base : Heap}
theorem g_netOf0 (T : Tx K mg) : GDef P w K mg base "net_of" 5 ["many"] (spNetOf K 0) := by
  refine gdef (st := dNetOf) T (by unfold fn defs1; simp) (by unfold faG; simp) sc_netOf (fun vs H Q E h => ?_) (fun _ _ _ _ _ _ us hl => match us, hl with | [_], _ => rfl) (fun f cdv A outer s H vs Q E ec hr h => ?_)
  · obtain ⟨l, _, hl, _⟩ := h
    exact absurd hl (Nat.not_lt_zero _)
  · obtain ⟨l, _, hl, _⟩ := h
    exact absurd hl (Nat.not_lt_zero _)
theorem g_settings0 (T : Tx K mg) : GDef P w K mg base "settings_for" 3 ["pairs"] (spSettings K 0) := by
  refine gdef (st := dSettingsFor) T (by unfold fn defs1; simp) (by unfold faG; simp) sc_settings (fun vs H Q E h => ?_) (fun _ _ _ _ _ _ us hl => match us, hl with | [_], _ => rfl) (fun f cdv A outer s H vs Q E ec hr h => ?_)
  · obtain ⟨a, ps, l, _, _, _, hl, _⟩ := h
    exact absurd hl (Nat.not_lt_zero _)
  · obtain ⟨a, ps, l, _, _, _, hl, _⟩ := h
    exact absurd hl (Nat.not_lt_zero _)
theorem uses (T : Tx K mg) (TB : TBs K mg base) : LawUses P w K mg base := by
  have GC := g_checkPairing (P := P) (w := w) T TB
  have GL := g_logarithm (P := P) (w := w) (base := base) T
  have GT := g_turnedOver (P := P) (w := w) (base := base) T
  have GF := g_filled (P := P) (w := w) (base := base) T
  have KN := k_net (P := P) (w := w) T TB GC (g_isFull T)
  have MW := m_way T (m_check (P := P) (w := w) T TB (m_stages T))
  have N0 := g_netOf0 (P := P) (w := w) (base := base) T
  have GW := g_plainWires (P := P) (w := w) (base := base) T
  have GP := g_partedWires (P := P) (w := w) (base := base) T
  have GI := g_inHalves (P := P) (w := w) (base := base) T
  have N1 := g_netOf_step T KN GL GW GP GT GI 0 5 (by omega) N0
  have N2 := g_netOf_step T KN GL GW GP GT GI 1 6 (by omega) N1
  have N3 := g_netOf_step T KN GL GW GP GT GI 2 7 (by omega) N2
  have GH := g_halvesOf (P := P) (w := w) (base := base) T GT (g_partner T)
  have S0 := g_settings0 (P := P) (w := w) (base := base) T
  have S1 := g_settings_step T GC GF GL GT GH 0 3 (by omega) S0
  have S2 := g_settings_step T GC GF GL GT GH 1 4 (by omega) S1
  have S3 := g_settings_step T GC GF GL GT GH 2 5 (by omega) S2
  have MA := m_callsAt (P := P) (w := w) (base := base) T
  have MC := m_colour T MA (m_firstFree T MA) (m_callsEx T MA)
  have GA := g_assigned T (k_calls T TB) MC
  have KC := k_clos (P := P) (w := w) (base := base) T
  have MK := m_closCheck (P := P) (w := w) (base := base) T (m_size T)
  have ME := m_ends (P := P) (w := w) (base := base) T
  have MI := m_usedIn (P := P) (w := w) (base := base) T
  have MO := m_usedOut (P := P) (w := w) (base := base) T
  have MF := m_freeMid T ME MI MO
  have MP := m_putBy T MK MF
  have MX := m_ex T ME (m_at T ME)
  have MM := m_putMoving T MK MF ME MI MO MX
  have GD := g_dice (P := P) (w := w) (base := base) T
  have GR := g_roll (P := P) (w := w) (base := base) T
  exact ⟨GR, g_part T GR (g_full T GR), g_rounds T GD, N3, S3, MW, m_stages T, g_carried T GA KC MP, KC, m_shown T, m_isSound T MI MO, m_end T, MM⟩
theorem law_ok {fd : FuncData} (T : Tx K mg) (TB : TBs K mg base) (F : FnA K (dG "law" dLaw) fd) : FnOk P w K mg base CX0 10 (He.fAd K (dG "law" dLaw).at_) fd ["_law_script"] (spLaw K) := by
  refine fnok F sc_law (fun vs H Q E h => ?_) (b_law T (uses T TB))
  obtain ⟨a, ns, rfl, _⟩ := h
  rfl
end
end Ck
/-! ## text L61U -/
set_option Elab.async false
set_option linter.all false
set_option maxRecDepth 100000
set_option maxHeartbeats 4000000
namespace Ck
open PySem PySem.Spec PyProof.Rows L2
/-! ### the tables as the end wants them -/
def tbs (K : PySem.W.Frag) : List Addr := tf.map fun p => (He.cT K p).2
def toX (K : PySem.W.Frag) (H : Hp) : Hp := fun b => if b ∈ tbs K then some (tabO b) else H b
def toT (K : PySem.W.Frag) (H : Hp) (h : Heap) : Hp := fun b => if b ∈ tbs K then (match h.get? b with
  | some o => (match o.data with
    | .fields ps => some (.tbl ps)
    | _ => none)
  | none => none) else H b
section
variable {K : PySem.W.Frag} {H : Hp} {h : Heap} {b : Addr}
theorem toX_in (i : b ∈ tbs K) : toX K H b = some (tabO b) := if_pos i
theorem toX_out (i : b ∉ tbs K) : toX K H b = H b := if_neg i
theorem toT_in {ps : Array Value} (i : b ∈ tbs K) (e : h.get? b = some { cls := .none, data := .fields ps }) : toT K H h b = some (.tbl ps) := by
  unfold toT
  rw [if_pos i, e]
theorem toT_out (i : b ∉ tbs K) : toT K H h b = H b := if_neg i
theorem mem_tbs {p : He.Defn} (i : p ∈ tf) : (He.cT K p).2 ∈ tbs K := List.mem_map.mpr ⟨p, i, rfl⟩
def spEnd2 (K : PySem.W.Frag) : Sp := fun vs H Q _ => ∃ (a : Addr) (ns : List Int), vs = [.ref a] ∧ SqL K H a (ns.map V.int) ∧ (∀ p ∈ tf, H (He.cT K p).2 = some (.tbl #[])) ∧ ∀ H', Q (.bl true) H'
end
section
variable {P : Program} {w : World} {K : PySem.W.Frag} {mg : Str → Option Value} {base : Heap}
theorem tab_law {k : Nat} {f : Addr} {fd : FuncData} (F : FnOk P w K mg base CX0 k f fd ["_law_script"] (spLaw K)) : FnOk P w K mg base CX0 k f fd ["_law_script"] (spEnd2 K) := by
  refine ⟨fun vs H Q E z => ?_, fun A outer s H args us vs Q E hr N hb hv z => ?_⟩
  · obtain ⟨a, ns, rfl, _⟩ := z
    rfl
  · obtain ⟨a, ns, rfl, hS, hT, k⟩ := z
    have tab : ∀ b ∈ tbs K, H b = some (.tbl #[]) := fun b hb => by
      obtain ⟨p, hp, e⟩ := List.mem_map.mp hb
      rw [← e]
      exact hT p hp
    have outOf : ∀ {b : Addr} {o : HO}, H b = some o → (∀ ps, o ≠ .tbl ps) → b ∉ tbs K := fun {b o} e n z => by
      rw [tab b z] at e
      exact n _ (Option.some.inj e).symm
    have outN : ∀ {b : Addr}, H b = none → b ∉ tbs K := fun {b} e z => by
      rw [tab b z] at e
      cases e
    have noX : ∀ {b : Addr}, H b = none → toX K H b = none := fun {b} e => by rw [toX_out (outN e)]; exact e
    have keepX : ∀ {b : Addr} {o : HO}, H b = some o → (∀ ps, o ≠ .tbl ps) → toX K H b = some o := fun {b o} e n => by rw [toX_out (outOf e n)]; exact e
    have okX : HOk P w (toX K H) s.heap := fun b o e => by
      by_cases i : b ∈ tbs K
      · rw [toX_in i] at e
        cases e
        have g : s.heap.get? b = some { cls := .none, data := .fields #[] } := N.hok b _ (tab b i)
        refine ⟨⟨#[], g, trivial⟩, ⟨_, g⟩, fun h1 h2 q kk => ?_⟩
        obtain ⟨ps, e1, e2⟩ := q
        exact ⟨ps, kk _ e1, e2⟩
      · rw [toX_out i] at e
        exact (N.hok b o e).stay (fun _ _ _ q => q) (fun c q => keepX q (by intro ps z; cases z)) (fun c xs q => keepX q (by intro ps z; cases z))
    have NX : Env0 P w K mg base A outer s (toX K H) := ⟨N.frames, N.mod, fun b o e => ⟨(N.bs b o e).1, noX (N.bs b o e).2⟩, N.bsz, N.funs, fun b hb => noX (N.frf b hb), okX, N.bare⟩
    have SX : SqL K (toX K H) a (ns.map V.int) := by
      rcases hS with hS | hS
      · rcases hS with hS | ⟨o, hS⟩
        · exact .inl (.inl (keepX hS (by intro ps z; cases z)))
        · exact .inl (.inr ⟨o, keepX hS (by intro ps z; cases z)⟩)
      · exact .inr hS
    have TX : TT K (toX K H) := fun p hp => toX_in (mem_tbs hp)
    refine codeAny_mono (F.run A outer s (toX K H) args us [.ref a] (fun v H' => v = .bl true ∧ Same (toX K H) H') E hr NX hb hv ⟨a, ns, rfl, SX, TX, fun H' sm => ⟨rfl, sm⟩⟩) fun r s' c => ?_
    have key : ∀ u, CE outer P w (toX K H) s (fun v H' => v = .bl true ∧ Same (toX K H) H') u s' → CE outer P w H s Q u s' := by
      rintro u ⟨v, H', eos, hbare, un, ok, rv, rfl, sm⟩
      have inT : ∀ b ∈ tbs K, ∃ ps : Array Value, s'.heap.get? b = some { cls := .none, data := .fields ps } := fun b i => by
        have e : H' b = some (tabO b) := sm _ _ (toX_in i)
        obtain ⟨⟨ps, e1, _⟩, _⟩ := ok b _ e
        exact ⟨ps, e1⟩
      have keepT : ∀ {b : Addr} {o : HO}, H' b = some o → (∀ φ, o ≠ .ext φ) → toT K H' s'.heap b = some o := fun {b o} e n => by
        by_cases i : b ∈ tbs K
        · rw [sm _ _ (toX_in i)] at e
          exact absurd (Option.some.inj e).symm (n _)
        · rw [toT_out i]
          exact e
      refine ⟨.bl true, toT K H' s'.heap, eos, hbare, ⟨fun b o e n => un.keep b o e (noX n), fun b o e n => un.slot b o e (noX n), fun b o e n hx => ?_, un.there, fun b xs e => ?_, fun b o u e => ?_, fun b ps e => ?_⟩, fun b o e => ?_, rv, k _⟩
      · rw [toT_out (outN n)]
        exact un.free b o e (noX n) hx
      · exact keepT (un.tups b xs (keepX e (by intro ps z; cases z))) (by intro ps z; cases z)
      · exact keepT (un.frzs b o u (keepX e (by intro ps z; cases z))) (by intro ps z; cases z)
      · by_cases i : b ∈ tbs K
        · rw [tab b i] at e
          cases e
          obtain ⟨qs, g⟩ := inT b i
          exact ⟨qs, by rw [toT_in i g, Array.empty_append]⟩
        · obtain ⟨more, q⟩ := un.tbls b ps (by rw [toX_out i]; exact e)
          exact ⟨more, by rw [toT_out i]; exact q⟩
      · by_cases i : b ∈ tbs K
        · obtain ⟨qs, g⟩ := inT b i
          rw [toT_in i g] at e
          cases e
          exact g
        · rw [toT_out i] at e
          exact (ok b o e).stay (fun _ _ _ q => q) (fun c q => keepT q (by intro φ z; cases z)) (fun c xs q => keepT q (by intro φ z; cases z))
    cases r with
    | ok v =>
      cases v with
      | ret u => exact key u c
      | _ => exact c
    | error e => exact c
end
end Ck
/-! ## text L61V -/
set_option Elab.async false
set_option linter.all false
set_option maxRecDepth 100000
set_option maxHeartbeats 0
namespace Ck
open PySem PySem.Spec PyProof.Rows L2
theorem facts {P : Program} {w : World} {K : PySem.W.Frag} {h : Heap} {mg : Str → Option Value} {f : Addr} (X : K.In h) (G : h.Ns mainGlobals mg) (hfa : mg ("law" : Str) = some (.ref f)) (c : He.SaysX fa fn [] tf (fun _ => true) w h K) :
    ∃ fd : FuncData, (∀ (s : Shared) (v : Value), BindsTo s fd ⟨[v], []⟩ [("_law_script", v)]) ∧ ∀ base : Heap, K.In base → base.Ns mainGlobals mg → (∀ p ∈ tf.map (He.cT K), LamX.TabB base mg p.1 p.2) → FnOk P w K mg base CX0 10 f fd ["_law_script"] (spEnd2 K) := by
  have T : Tx K mg := Tx.of X G c.t.d
  obtain ⟨fd, F⟩ := T.df (dG "law" dLaw) (by unfold fn defs1 defs2 defs3; simp)
  have e := hfa.symm.trans (T.gl "law" (by unfold faG; simp))
  cases e
  have b := FunD.bindsA (ps := ["_law_script"]) F fun _ _ _ _ _ _ us hl => match us, hl with | [_], _ => rfl
  exact ⟨fd, fun s v => b s [v] rfl, fun base _ _ TB => tab_law (law_ok T (fun p hp => TB _ (List.mem_map.mpr ⟨p, hp, rfl⟩)) F)⟩
end Ck
open PySem PySem.W PySem.Calls PyProof.Rows
theorem PySem.Challenge.cw_crossloom_k61_whole_any_pairing_in_one_p_holds : PySem.Challenge.rw_crossloom_k61_whole_any_pairing_in_one_p.Holds := by
  w_on; o_law
  refine HandSHeadRun.head_any (r := OpenLaw.row PySem.Challenge.rw_crossloom_k61_whole_any_pairing_in_one_p) (q := view (OpenLaw.row PySem.Challenge.rw_crossloom_k61_whole_any_pairing_in_one_p).prog [35]) (H := Ck.hk) (ob := Ck.ob) (M := 4000) (loose := Ck.names) (d := HandSHeadRun.topDef (OpenLaw.row PySem.Challenge.rw_crossloom_k61_whole_any_pairing_in_one_p).prog 35) (kwd := []) Ck.ob_eq
    (by kernel_rfl) (fun s => by kernel_rfl) Ck.headRun (by kernel_rfl) (by kernel_rfl) (by kernel_rfl) (by rfl) (by first | assumption | decide +kernel) (by decide +kernel) ⟨rfl, rfl, rfl, rfl, rfl, by decide +kernel⟩ ?hw ?hc
  case hw => w_witness2
  case hc =>
    refine LamX.walk_ofTsE (l := PySem.Challenge.rw_crossloom_k61_whole_any_pairing_in_one_p) (n := 63) (k := 10) (x := "_law_script") (CX := fun _ => L2.CX0) rfl (by decide) (by kernel_rfl) ⟨rfl, by decide, by decide⟩ ?F (fun _ _ _ _ _ z => z)
    intro w mg fa h Y G hmg0
    obtain ⟨K, KX, c⟩ := Y
    have hmg : mg ("law" : PySem.Str) = some (.ref fa) := by
      have e : (HandSHeadRun.topDef (OpenLaw.row PySem.Challenge.rw_crossloom_k61_whole_any_pairing_in_one_p).prog 35).name = ("law" : PySem.Str) := by kernel_rfl
      rw [← e]
      exact hmg0
    obtain ⟨fd, hb, hF⟩ := Ck.facts (P := (PySem.Challenge.rw_crossloom_k61_whole_any_pairing_in_one_p).prog) (w := w) KX G hmg c
    refine ⟨K, KX, fd, Ck.tf.map (He.cT K), Ck.spEnd2 K, fun p hp => ?_, fun p hp => ?_, fun p hp => ?_, hb, fun H a ns hl _ hT hS => ⟨a, ns, rfl, hS, fun p hp => hT _ (List.mem_map.mpr ⟨p, hp, rfl⟩), fun _ => rfl⟩, hF⟩
    · obtain ⟨q, hq, e⟩ := List.mem_map.mp hp
      rw [← e]
      exact c.empty q hq
    · obtain ⟨q, hq, e⟩ := List.mem_map.mp hp
      rw [← e]
      exact c.out q hq
    · obtain ⟨q, hq, e⟩ := List.mem_map.mp hp
      rw [← e]
      exact PySem.W.codeHd_of_K KX (c.hd q hq)
