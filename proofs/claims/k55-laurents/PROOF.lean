import PyProof.Rows.All
import Wide.All
import OpenK.AllK
import Wide.FinOn
import KE.KStateDown
import Lean
import HandS.ForMost
import HandS.Codes
import HandS.Defaults
import HandS.Property
import HandS.ClsMeth
import HandS.Head2
import HandS.HeadEnd
import HandS.HeadHook1
import HandS.HeadHook2
import HandS.HeadNt
import PySem.Challenge.RW_wallwalks_k55_whole_laurents
import KE.KOpsOwn
import HandS.OwnEq
import PyProof.Conv_bool
import PyProof.InstNe
import PyProof.ReprRoads
import PyProof.CallFns
import HandS.MakeKw
import HandS.MakeKwOnly
import HandS.TupAny
import HandS.TupMul
import HandS.Style
import KE.KRevSl
import HandS.Walk
import HandS.Zip
import KE.GoesMore
import KE.KDictZip
import HandS.More
import HandS.Conv
import HandS.Sort
import KE.KEqDict
import KE.KDictList
import HandS.Wide
import HandS.FStr
import HandS.IsInst
import HandS.WideBits
import HandS.ListItems
import HandS.Small
import HandS.SortInts
import HandS.Ends
set_option Elab.async false
set_option linter.all false
set_option maxRecDepth 100000
section
/-! ## part Head -/
set_option maxHeartbeats 0
namespace Lau
open PySem PySem.Spec PyProof.Rows L2
abbrev P0 : Program := PySem.Challenge.pw_wallwalks_k55_whole_laurents
/-- the i-th statement of the text -/
def top (i : Nat) : Stmt := P0.main.body.getD i (.Pass ⟨0, 0, 0, 0⟩)
abbrev inL (j : Nat) : Stmt := inClass (top 26) j
/-- where the class stands -/
abbrev LC (K : PySem.W.Frag) : Addr := He.ga K "Laurent"
/-- a def of the module as it stands behind the top -/
def DefF (K : PySem.W.Frag) (mg : Str → Option Value) (x : Str) (i : Nat) : Prop :=
  ∃ (f : Addr) (fd : FuncData), FunD K x x (defArgs (top i)) (defBody (top i)) (defScope (top i)) [] [] f fd ∧ mg x = some (.ref f)
def DefM (K : PySem.W.Frag) (m qual : Str) (j : Nat) (dvs : List V) (f : Addr) : Prop :=
  ∃ fd : FuncData, FunD K m qual (defArgs (inL j)) (defBody (inL j)) (defScope (inL j)) dvs [] f fd
/-- the getter of a property -/
def gtr (K : PySem.W.Frag) (m : Str) : Addr := match PySem.W.recIn K (He.ma K (LC K) m) "property" with
  | some (.ref g :: _) => g
  | _ => 0
def propB (K : PySem.W.Frag) (m : Str) : Bool := He.eqO (PySem.W.findIn K (.ref (LC K)) m) (some (some (.ref (He.ma K (LC K) m)))) &&
  (He.eqO (PySem.W.specialIn K (.ref (He.ma K (LC K) m)) "__get__") (some (some (.builtin "property.__get__"))) &&
  (decide (PySem.W.takesIn K (.ref (He.ma K (LC K) m)) = some true) && (match PySem.W.recIn K (He.ma K (LC K) m) "property" with
    | some (.ref _ :: _) => true
    | _ => false)))
theorem propB_ok {K : PySem.W.Frag} {m : Str} (h : propB K m = true) : PropOf K (LC K) m (He.ma K (LC K) m) (gtr K m) := by
  obtain ⟨h1, h⟩ := He.ba h
  obtain ⟨h2, h⟩ := He.ba h
  obtain ⟨h3, h4⟩ := He.ba h
  refine ⟨He.eqO_ok h1, He.eqO_ok h2, of_decide_eq_true h3, ?_⟩
  unfold gtr
  split at h4
  · rename_i g r e
    exact ⟨r, by rw [e]⟩
  · cases h4
/-- a def of the class, by its name in it -/
def metB (K : PySem.W.Frag) (m : Str) : Bool := He.eqO (PySem.W.findIn K (.ref (LC K)) m) (some (some (.ref (He.ma K (LC K) m)))) &&
  (PySem.W.isFn K (.ref (He.ma K (LC K) m)) && PySem.W.keepIn K (.ref (He.ma K (LC K) m)))
theorem metB_ok {K : PySem.W.Frag} {m : Str} (h : metB K m = true) : Meth K (LC K) m (He.ma K (LC K) m) := by
  obtain ⟨h1, h⟩ := He.ba h
  obtain ⟨h2, h3⟩ := He.ba h
  exact ⟨He.eqO_ok h1, h2, h3⟩
/-- what isinstance and the own operators ask of the class -/
structure ClsF (K : PySem.W.Frag) (C : Addr) : Prop where
  cl : Cls K C
  ha : PySem.W.findIn K (.ref C) "__class__" = some (some (.builtin "object.__class__"))
  hn : PySem.W.specialIn K (.builtin "object.__class__") "__get__" = some (some (.builtin "getset_descriptor.__get__"))
  htk : PySem.W.takesIn K (.builtin "object.__class__") = some true
  hm : PySem.W.mroIn K C (.type "object") = some true
  me : PySem.W.kitOne K (.ref C) (.ref C) = some true
  kInt : PySem.W.kitOne K (.type "int") (.ref C) = some false
  kStr : PySem.W.kitOne K (.type "str") (.ref C) = some false
  sf : PySem.W.selfFirst K C = true
  ne : PySem.W.findIn K (.ref C) "__ne__" = some (some (.builtin "object.__ne__"))
  sInt : PySem.W.subIn K (.type "int") (.ref C) = some false
  sStr : PySem.W.subIn K (.type "str") (.ref C) = some false
  uInt : PySem.W.subIn K (.ref C) (.type "int") = some false
  rpow : PySem.W.findIn K (.ref C) "__rpow__" = some none
def clsFB (K : PySem.W.Frag) (C : Addr) : Bool :=
  PySem.W.plainGet K C Str.empty && (PySem.W.hasDictIn K C && (PySem.W.plainOver K C && (He.eqO (PySem.W.findIn K (.ref C) "__setattr__") (some (some (.builtin "object.__setattr__"))) &&
  (He.eqO (PySem.W.findIn K (.ref C) "__class__") (some (some (.builtin "object.__class__"))) && (He.eqO (PySem.W.specialIn K (.builtin "object.__class__") "__get__") (some (some (.builtin "getset_descriptor.__get__"))) &&
  (decide (PySem.W.takesIn K (.builtin "object.__class__") = some true) && (decide (PySem.W.mroIn K C (.type "object") = some true) && (decide (PySem.W.kitOne K (.ref C) (.ref C) = some true) &&
  (decide (PySem.W.kitOne K (.type "int") (.ref C) = some false) && (decide (PySem.W.kitOne K (.type "str") (.ref C) = some false) && (PySem.W.selfFirst K C &&
  (He.eqO (PySem.W.findIn K (.ref C) "__ne__") (some (some (.builtin "object.__ne__"))) && (decide (PySem.W.subIn K (.type "int") (.ref C) = some false) && (decide (PySem.W.subIn K (.type "str") (.ref C) = some false) &&
  (decide (PySem.W.subIn K (.ref C) (.type "int") = some false) && He.eqO (PySem.W.findIn K (.ref C) "__rpow__") (some none))))))))))))))))
theorem clsFB_ok {K : PySem.W.Frag} {C : Addr} (h : clsFB K C = true) : ClsF K C := by
  obtain ⟨h1, h⟩ := He.ba h
  obtain ⟨h2, h⟩ := He.ba h
  obtain ⟨h3, h⟩ := He.ba h
  obtain ⟨h4, h⟩ := He.ba h
  obtain ⟨h5, h⟩ := He.ba h
  obtain ⟨h6, h⟩ := He.ba h
  obtain ⟨h7, h⟩ := He.ba h
  obtain ⟨h8, h⟩ := He.ba h
  obtain ⟨h9, h⟩ := He.ba h
  obtain ⟨h10, h⟩ := He.ba h
  obtain ⟨h11, h⟩ := He.ba h
  obtain ⟨h12, h⟩ := He.ba h
  obtain ⟨h13, h⟩ := He.ba h
  obtain ⟨h14, h⟩ := He.ba h
  obtain ⟨h15, h⟩ := He.ba h
  obtain ⟨h16, h17⟩ := He.ba h
  exact ⟨⟨h1, h2, h3, He.eqO_ok h4⟩, He.eqO_ok h5, He.eqO_ok h6, of_decide_eq_true h7, of_decide_eq_true h8, of_decide_eq_true h9, of_decide_eq_true h10, of_decide_eq_true h11, h12, He.eqO_ok h13, of_decide_eq_true h14, of_decide_eq_true h15, of_decide_eq_true h16, He.eqO_ok h17⟩
/-- the staticmethod: its record and its def -/
def readB (K : PySem.W.Frag) : Bool := He5.wrapB K (LC K) "staticmethod" "staticmethod.__get__" "read" && (PySem.W.readsIn K (LC K) (.type "type") && PySem.W.keepIn K (.ref (He5.wf K (LC K) "staticmethod" "read")))
def mkrB (K : PySem.W.Frag) : Bool := PySem.W.makesIn K (LC K) && PySem.W.keepIn K (.ref (LC K))
def intB (K : PySem.W.Frag) (x : Str) (i : Int) : Bool := match PySem.W.nsIn K mainGlobals x with
  | some (some (.int j _)) => decide (j = i)
  | _ => false
def gloB (K : PySem.W.Frag) (x : Str) : Bool := He.eqO (PySem.W.nsIn K mainGlobals x) (some (some (.ref (He.ga K x))))
def freeB (K : PySem.W.Frag) (x : Str) : Bool := He.eqO (PySem.W.nsIn K mainGlobals x) (some none)

def fnNames : List Str := (["trimmed", "raw_letter", "raw_whole", "raw_sum", "raw_opposite", "raw_difference", "raw_product", "raw_barred", "raw_coefficient", "raw_highest", "raw_text", "whole_in", "piece_in", "raw_in", "is_whole", "is_between", "raw_checked", "laurent_of", "mate_of", "letter"] : List Str) ++ (["_law_well", "_law_dip", "_law_pick", "_law_poly", "_law_added", "_law_multiplied", "_law_opposite", "_law_written", "_law_laurent", "_law_is_one", "_law_raised", "_law_signs_right", "_law_right", "law"] : List Str)
def fnPlaces : List Nat := [8, 9, 10, 11, 12, 13, 14, 15, 16, 17, 18, 19, 20, 21, 23, 24, 27, 28, 29, 30, 32, 33, 34, 35, 36, 37, 38, 39, 40, 41, 42, 43, 44, 45]
def freeNames : List Str := ["abs", "all", "bool", "dict", "divmod", "enumerate", "int", "isinstance", "len", "list", "max", "min", "range", "repr", "sorted", "str", "sum", "tuple", "zip"]
def metNames : List Str := ["__init__", "__eq__", "__bool__", "__add__", "__radd__", "__sub__", "__rsub__", "__mul__", "__rmul__", "__neg__", "__pow__", "power", "coefficient"]
def propNames : List Str := ["lowest", "highest", "coefficients", "barred", "total", "text"]
def exB (K : PySem.W.Frag) : Bool := (fnNames.all (gloB K) && freeNames.all (freeB K)) && (gloB K "Laurent" && (intB K "MOST_POWER" 64 && (intB K "MOST_LAURENT" 400 && (metNames.all (metB K) && (propNames.all (propB K) &&
  (clsFB K (LC K) && (readB K && (mkrB K && He.eqO (PySem.W.findIn K (.ref (LC K)) "_raw") (some none))))))))) 
def dF (x : Str) (i : Nat) : He5.DefA := ⟨fun K => He.ga K x, x, x, defArgs (top i), defBody (top i), defScope (top i), [], []⟩
def dM (at_ : PySem.W.Frag → Addr) (m qual : Str) (j : Nat) (dfl : List He.Dv) : He5.DefA := ⟨at_, m, qual, defArgs (inL j), defBody (inL j), defScope (inL j), dfl, []⟩
def fnA : List He5.DefA := [dF "trimmed" 8,
  dF "raw_letter" 9,
  dF "raw_whole" 10,
  dF "raw_sum" 11,
  dF "raw_opposite" 12,
  dF "raw_difference" 13,
  dF "raw_product" 14,
  dF "raw_barred" 15,
  dF "raw_coefficient" 16,
  dF "raw_highest" 17,
  dF "raw_text" 18,
  dF "whole_in" 19,
  dF "piece_in" 20,
  dF "raw_in" 21,
  dF "is_whole" 23,
  dF "is_between" 24,
  dF "raw_checked" 27,
  dF "laurent_of" 28,
  dF "mate_of" 29,
  dF "letter" 30]
  ++ [dF "_law_well" 32,
  dF "_law_dip" 33,
  dF "_law_pick" 34,
  dF "_law_poly" 35,
  dF "_law_added" 36,
  dF "_law_multiplied" 37,
  dF "_law_opposite" 38,
  dF "_law_written" 39,
  dF "_law_laurent" 40,
  dF "_law_is_one" 41,
  dF "_law_raised" 42,
  dF "_law_signs_right" 43,
  dF "_law_right" 44,
  dF "law" 45,
  dM (fun K => He.ma K (LC K) "__init__") "__init__" "Laurent.__init__" 0 [.non],
  dM (fun K => He.ma K (LC K) "__eq__") "__eq__" "Laurent.__eq__" 8 [],
  dM (fun K => He.ma K (LC K) "__bool__") "__bool__" "Laurent.__bool__" 9 [],
  dM (fun K => He.ma K (LC K) "__add__") "__add__" "Laurent.__add__" 10 [],
  dM (fun K => He.ma K (LC K) "__radd__") "__radd__" "Laurent.__radd__" 11 [],
  dM (fun K => He.ma K (LC K) "__sub__") "__sub__" "Laurent.__sub__" 12 []]
  ++ [dM (fun K => He.ma K (LC K) "__rsub__") "__rsub__" "Laurent.__rsub__" 13 [],
  dM (fun K => He.ma K (LC K) "__mul__") "__mul__" "Laurent.__mul__" 14 [],
  dM (fun K => He.ma K (LC K) "__rmul__") "__rmul__" "Laurent.__rmul__" 15 [],
  dM (fun K => He.ma K (LC K) "__neg__") "__neg__" "Laurent.__neg__" 16 [],
  dM (fun K => He.ma K (LC K) "__pow__") "__pow__" "Laurent.__pow__" 17 [],
  dM (fun K => He.ma K (LC K) "power") "power" "Laurent.power" 18 [],
  dM (fun K => He.ma K (LC K) "coefficient") "coefficient" "Laurent.coefficient" 19 [],
  dM (fun K => gtr K "lowest") "lowest" "Laurent.lowest" 2 [],
  dM (fun K => gtr K "highest") "highest" "Laurent.highest" 3 [],
  dM (fun K => gtr K "coefficients") "coefficients" "Laurent.coefficients" 4 [],
  dM (fun K => gtr K "barred") "barred" "Laurent.barred" 5 [],
  dM (fun K => gtr K "total") "total" "Laurent.total" 6 [],
  dM (fun K => gtr K "text") "text" "Laurent.text" 7 [],
  dM (fun K => He5.wf K (LC K) "staticmethod" "read") "read" "Laurent.read" 1 []]

def obsL (fn : List He5.DefA) (K : PySem.W.Frag) : He.AlD := (exB K && fn.all fun d => d.ok K, fn.map fun d => He5.fnA K (d.at_ K))
def SaysL (fn : List He5.DefA) (K : PySem.W.Frag) : Prop := obsL fn K = He5.valA fn
def obsLG (n : Nat) (fn : List He5.DefA) (g : Addr → Option Obj) : He.AlD := obsL fn (He.frG g (He5.asA g n))
def hookL (n : Nat) (fn : List He5.DefA) : PySem.W.Hook where
  α := He.AlD
  obs := fun s => obsLG n fn s.heap.get?
  val := fun _ => He5.valA fn
  says := fun _ h => ∃ K : PySem.W.Frag, K.In h ∧ SaysL fn K
  of := fun _ _ e => ⟨_, He.frG_in, e⟩
  keeps := fun _ _ _ ⟨K, hK, c⟩ k => ⟨K, PySem.W.Frag.In.keeps hK k, c⟩
theorem obsLG_eq {n : Nat} {fn : List He5.DefA} {g : Addr → Option Obj} {s : Shared} (h : ∀ a, g a = s.heap.get? a) : obsLG n fn g = (hookL n fn).obs s := by
  have e : g = s.heap.get? := funext h
  rw [e] <;> rfl
abbrev R0 : PySem.W.OpenRow := PySem.W.OpenLaw.row PySem.Challenge.rw_wallwalks_k55_whole_laurents
def steps : Nat := 6
abbrev hkL : PySem.W.Hook := hookL steps fnA
def obL (s : PySem.W.SharedT) : He.AlD := obsLG steps fnA (HandSHeadRun.getT s)
theorem obL_eq (s : PySem.W.SharedT) : obL s = hkL.obs s.abs := obsLG_eq (HandSHeadRun.getT_eq s)

def looseN : List Str := (["WrongValue", "InvalidNumber", "InvalidText", "InvalidCoefficients", "MOST_POWER", "MOST_LAURENT", "trimmed", "raw_letter", "raw_whole", "raw_sum", "raw_opposite", "raw_difference", "raw_product", "raw_barred", "raw_coefficient", "raw_highest", "raw_text", "whole_in", "piece_in", "raw_in"] : List Str)
  ++ (["is_whole", "is_between", "raw_checked", "laurent_of", "mate_of", "letter", "_law_well", "_law_dip", "_law_pick", "_law_poly", "_law_added", "_law_multiplied", "_law_opposite", "_law_written", "_law_laurent", "_law_is_one", "_law_raised", "_law_signs_right", "_law_right", "Laurent"] : List Str)
theorem runL (w : World) : HandSHeadRun.RunEq R0 (PySem.W.view R0.prog [45]) hkL obL 4000 looseN w := by
  intro os
  kernel_rfl
end Lau
end
section
/-! ## part R1 -/
set_option maxHeartbeats 4000000
/-! own operators of an instance: + - * ** by the class's defs, from the left and from the right, the sign, the truth, == and != with both answers -/
namespace Lau
open PySem PySem.Spec PyProof.Rows L2

section
variable {X : Cx} {A : Around} {pins : List (Addr × Obj)} {σ : L2.St} {H : Hp} {s : Shared} {k : Nat} {f : Addr} {fd : FuncData} {ps : List Str} {sp : Sp} {us : List Value} {vs : List V} {Q : VK} {E' : Value → Shared → Prop}
/-- a def called by the interpreter somewhere below the body -/
theorem run_own (F : FnOk X.prog X.w X.K X.mg X.base CX0 k f fd ps sp) (hr : Room k A) (hfr : A.frames = X.A.frames) (b : Binds X.K fd ps []) (I : Inv X pins σ H s) (r : Vals vs us) (h : sp vs H Q E0) :
    wpAny (model X.prog X.w) A (call (.ref f) us) (EP X pins σ Q) E' s := by
  have e := I.env0
  have e0 : Env0 X.prog X.w X.K X.mg X.base A X.stack s H := ⟨by rw [hfr]; exact e.frames, e.mod, e.bs, e.bsz, e.funs, e.frf, e.hok, e.bare⟩
  have hl := F.len _ _ _ _ h
  refine wpAny_call (codeAny_mono (F.run A X.stack s H ⟨us, []⟩ us vs Q E0 hr e0 (by
    have := b s us I.kIn (by rw [List.append_nil, ← hl]; exact r.length.symm)
    simpa using this) r h) fun rr s' hq => ?_)
  cases rr with
  | error e => exact hq.elim
  | ok fl =>
    cases fl with
    | ret w => exact I.after hq
    | next => exact False.elim hq
    | brk => exact False.elim hq
    | cont => exact False.elim hq
theorem cmpBack_of {u : Value} {s' : Shared} (h : EP X pins σ Q u s') : PySem.W.CmpBack (EP X pins σ Q) u s' := by
  cases u with
  | notImplemented =>
    obtain ⟨v, _, _, r, _⟩ := h
    cases v <;> first | exact nomatch r | (obtain ⟨_, e⟩ := r; cases e)
  | _ => exact h
end

/-- what the own operators ask of the class -/
structure OwnF (K : PySem.W.Frag) (C : Addr) : Prop where
  sf : PySem.W.selfFirst K C = true
  sInt : PySem.W.subIn K (.type "int") (.ref C) = some false
  uInt : PySem.W.subIn K (.ref C) (.type "int") = some false
  sStr : PySem.W.subIn K (.type "str") (.ref C) = some false
  top : PySem.W.mroIn K C (.type "object") = some true
/-- a def of the class as a special method -/
structure SpF (K : PySem.W.Frag) (C : Addr) (m : Str) (f : Addr) : Prop where
  at_ : PySem.W.findIn K (.ref C) m = some (some (.ref f))
  fn : PySem.W.isFn K (.ref f) = true

section
variable {X : Cx} {k : Nat} {C f g : Addr} {fd : FuncData} {ps : List Str} {sp : Sp}

/-- o op y: an instance or a whole number on the right -/
def rBin (C : Addr) (sp : Sp) : R2 := fun x y H Q => ∃ a dx fs, x = .ref a ∧ H a = some (.ins C dx fs) ∧ ((∃ b dy gs, y = .ref b ∧ H b = some (.ins C dy gs)) ∨ ∃ i, y = .int i) ∧ sp [x, y] H Q E0
theorem op_own {op : Operator} {fo ro rc : Option Value} (F : FnOk X.prog X.w X.K X.mg X.base CX0 k f fd ps sp) (hr : Room k X.A) (b : Binds X.K fd ps []) (o : OwnF X.K C) (hs : SpF X.K C (PySem.dunder op.info.2) f)
    (hrc : PySem.W.findIn X.K (.ref C) (dunderR op.info.2) = some rc) (hp : rc = none ∨ ∃ g : Addr, rc = some (.ref g)) (h1 : PySem.W.findIn X.K (.type "int") (PySem.dunder op.info.2) = some fo)
    (h2 : PySem.W.findIn X.K (.type "int") (dunderR op.info.2) = some ro) : OpR X (binaryOp op) (rBin C sp) := by
  intro pins s σ H x y v u Q I rx ry h
  obtain ⟨a, dx, fs, rfl, ha, hy, hsp⟩ := h
  cases rx
  obtain ⟨mA, O, _⟩ := ins_get I.hok ha
  obtain ⟨od, J, _⟩ := O.look
  obtain ⟨m, hF⟩ := I.fr
  have go := run_own (E' := X.xe) F hr rfl b I (vs := [.ref a, y]) (us := [.ref a, u]) (.cons rfl (.cons ry .nil)) hsp
  rcases hy with ⟨b', dy, gs, rfl, hb⟩ | ⟨i, rfl⟩
  · cases ry
    obtain ⟨mB, O', _⟩ := ins_get I.hok hb
    obtain ⟨od', J', _⟩ := O'.look
    exact PySem.W.binop_K hF I.ok.mod.kin J J'.type o.sf hs.at_ hs.fn (thn go fun u' s' q => cmpBack_of q)
  · obtain ⟨t, rfl⟩ := ry
    exact PySem.W.ksp_binT hF I.ok.mod.kin J (T := "int") rfl o.sf hs.at_ hs.fn hrc hp h1 h2 o.sInt (thn go fun u' s' q => cmpBack_of q)
end
end Lau

namespace PySem
section
variable {a : Int} {t : Tok} {x dx C : Addr}
theorem int_add_inst : Meets (Builtin.«int.__add__» ⟨[.int a t, .ref x], []⟩) (fun _ R s => s.heap.get? x = some (PySem.W.instObj C dx) ∧ R (.ok (.ret Value.notImplemented)) s) :=
  .of_wp fun prog w A R s h => by obtain ⟨hp, g, d, tk, os⟩ := s; obtain ⟨hl, h⟩ := h; wp_walk; exact ⟨_, rfl, h⟩
theorem int_sub_inst : Meets (Builtin.«int.__sub__» ⟨[.int a t, .ref x], []⟩) (fun _ R s => s.heap.get? x = some (PySem.W.instObj C dx) ∧ R (.ok (.ret Value.notImplemented)) s) :=
  .of_wp fun prog w A R s h => by obtain ⟨hp, g, d, tk, os⟩ := s; obtain ⟨hl, h⟩ := h; wp_walk; exact ⟨_, rfl, h⟩
theorem int_mul_inst : Meets (Builtin.«int.__mul__» ⟨[.int a t, .ref x], []⟩) (fun _ R s => s.heap.get? x = some (PySem.W.instObj C dx) ∧ R (.ok (.ret Value.notImplemented)) s) :=
  .of_wp fun prog w A R s h => by obtain ⟨hp, g, d, tk, os⟩ := s; obtain ⟨hl, h⟩ := h; wp_walk; exact ⟨_, rfl, h⟩
end
end PySem

namespace Lau
open PySem PySem.Spec PyProof.Rows L2
section
variable {prog : Program} {w : World} {A : Around} {E : Value → Shared → Prop} {s : Shared} {K : PySem.W.Frag} {x C f f' : Addr} {ox : Obj} {od : Option Obj}
/-- n op o, n a whole number whose own def declines -/
theorem binR {op : Operator} {i : Int} {t : Tok} {id : String} {Q : Value → Shared → Prop} (Xk : K.In s.heap) (I : PySem.W.InstAt s.heap x ox C od) (o : OwnF K C)
    (hfi : fillsNumberSlot (.type "int") op.info.2 = pure true) (hl : Slot "int" (PySem.dunder op.info.2) id)
    (hs : PySem.W.findIn K (.ref C) (PySem.dunder op.info.2) = some (some (.ref f'))) (hs' : PySem.W.findIn K (.ref C) (dunderR op.info.2) = some (some (.ref f))) (hf : PySem.W.isFn K (.ref f) = true)
    (hc : wpAny (model prog w) A (call (.builtin id) [.int i t, .ref x]) (fun v s' => v = .notImplemented ∧ s' = s) E s)
    (h : wpAny (model prog w) A (call (.ref f) [.ref x, .int i t]) (PySem.W.CmpBack Q) E s) : wpAny (model prog w) A (binaryOp op (.int i t) (.ref x)) Q E s := by
  obtain ⟨cd, rest, hcd, hm⟩ := PySem.W.ksp_first o.sf
  rcases hi : op.info with ⟨sym, nm'⟩
  rw [hi] at hfi hl hs hs'
  dsimp only at hfi hl hs hs'
  have one := PySem.W.ksp_try Xk I hs' hf h
  unfold binaryOp
  refine wpAny_holding ?_
  rw [hi]
  dsimp only
  refine wpAny_bind ?_
  unfold binaryOp1
  refine wpAny_bind (wpAny_typeOf (typeIs_int s i t) (wpAny_bind (I.type.here (wpAny_bind (wpAny_of_eq hfi ?_)))))
  rw [if_neg (by simp)]
  refine wpAny_bind ((PySem.W.fills_K Xk hcd hm hs).here ?_)
  simp only [Bool.and_self, if_true]
  refine wpAny_bind ((PySem.W.looks_mroIn Xk o.uInt).here ?_)
  simp only [Bool.false_eq_true, if_false, Bool.not_false, if_true]
  refine wpAny_bind (m := numberSlotInPython (.type "int") nm') (wpAny_of_eq (rfl : numberSlotInPython (.type "int") nm' = pure false) ?_)
  simp only [Bool.false_eq_true, if_false]
  refine wpAny_bind (wpAny_tryMethod_declines (typeIs_int s i t) hl (wpAny_mono hc (fun v s' q => ⟨q.1, ?_⟩) fun _ _ e => e))
  obtain ⟨_, rfl⟩ := q
  dsimp only
  refine wpAny_bind (wpAny_mono one (fun r s' hr' => ?_) fun _ _ e => e)
  obtain ⟨v, rfl, hq⟩ := hr'
  exact wpAny_bind (wpAny_rule (wpAny_pure (wpAny_pure hq)))
end
section
variable {X : Cx} {k : Nat} {C f f' : Addr} {fd : FuncData} {ps : List Str} {sp : Sp}
/-- n op o: the reflected def -/
def rRef (C : Addr) (sp : Sp) : R2 := fun x y H Q => ∃ i a dx fs, x = .int i ∧ y = .ref a ∧ H a = some (.ins C dx fs) ∧ sp [y, x] H Q E0
theorem op_ref {op : Operator} {id : String} (F : FnOk X.prog X.w X.K X.mg X.base CX0 k f fd ps sp) (hr : Room k X.A) (b : Binds X.K fd ps []) (o : OwnF X.K C) (hs : SpF X.K C (PySem.dunder op.info.2) f') (hs' : SpF X.K C (dunderR op.info.2) f)
    (hfi : fillsNumberSlot (.type "int") op.info.2 = pure true) (hl : Slot "int" (PySem.dunder op.info.2) id)
    (hc : ∀ (i : Int) (t : Tok) (x dx : Addr) (s : Shared) (E : Value → Shared → Prop), s.heap.get? x = some (PySem.W.instObj C dx) → wpAny (model X.prog X.w) X.A (call (.builtin id) [.int i t, .ref x]) (fun v s' => v = .notImplemented ∧ s' = s) E s) :
    OpR X (binaryOp op) (rRef C sp) := by
  intro pins s σ H x y v u Q I rx ry h
  obtain ⟨i, a, dx, fs, rfl, rfl, ha, hsp⟩ := h
  obtain ⟨t, rfl⟩ := rx
  cases ry
  obtain ⟨mA, O, _⟩ := ins_get I.hok ha
  obtain ⟨od, J, _⟩ := O.look
  have go := run_own (E' := X.xe) F hr rfl b I (vs := [.ref a, .int i]) (us := [.ref a, .int i t]) (.cons rfl (.cons ⟨t, rfl⟩ .nil)) hsp
  exact binR I.kIn J o hfi hl hs.at_ hs'.at_ hs'.fn (hc i t a dx s _ J.at_) (thn go fun u' s' q => cmpBack_of q)
theorem decl_add {C : Addr} (i : Int) (t : Tok) (x dx : Addr) (s : Shared) (E : Value → Shared → Prop) (h : s.heap.get? x = some (PySem.W.instObj C dx)) :
    wpAny (model X.prog X.w) X.A (call (.builtin "int.__add__") [.int i t, .ref x]) (fun v s' => v = .notImplemented ∧ s' = s) E s :=
  call_meets F.slot_int_add (typeIs_int s i t) F.entry_int_add (F.args_int_add_2 _ _) int_add_inst ⟨h, rfl, rfl⟩
theorem decl_sub {C : Addr} (i : Int) (t : Tok) (x dx : Addr) (s : Shared) (E : Value → Shared → Prop) (h : s.heap.get? x = some (PySem.W.instObj C dx)) :
    wpAny (model X.prog X.w) X.A (call (.builtin "int.__sub__") [.int i t, .ref x]) (fun v s' => v = .notImplemented ∧ s' = s) E s :=
  call_meets F.slot_int_sub (typeIs_int s i t) F.entry_int_sub (F.args_int_sub_2 _ _) int_sub_inst ⟨h, rfl, rfl⟩
theorem decl_mul {C : Addr} (i : Int) (t : Tok) (x dx : Addr) (s : Shared) (E : Value → Shared → Prop) (h : s.heap.get? x = some (PySem.W.instObj C dx)) :
    wpAny (model X.prog X.w) X.A (call (.builtin "int.__mul__") [.int i t, .ref x]) (fun v s' => v = .notImplemented ∧ s' = s) E s :=
  call_meets F.slot_int_mul (typeIs_int s i t) F.entry_int_mul (F.args_int_mul_2 _ _) int_mul_inst ⟨h, rfl, rfl⟩

/-- -o -/
def rNeg (C : Addr) (sp : Sp) : V → Hp → VK → Prop := fun x H Q => ∃ a dx fs, x = .ref a ∧ H a = some (.ins C dx fs) ∧ sp [x] H Q E0
theorem un_own (F : FnOk X.prog X.w X.K X.mg X.base CX0 k f fd ps sp) (hr : Room k X.A) (b : Binds X.K fd ps []) (hs : SpF X.K C "__neg__" f) : UnR X (unaryOp .USub) (rNeg C sp) := by
  intro pins s σ H x v Q I rx h
  obtain ⟨a, dx, fs, rfl, ha, hsp⟩ := h
  cases rx
  obtain ⟨mA, O, _⟩ := ins_get I.hok ha
  obtain ⟨od, J, _⟩ := O.look
  obtain ⟨m, hF⟩ := I.fr
  exact PySem.W.ksp_neg hF I.ok.mod.kin J hs.at_ hs.fn (run_own (E' := X.xe) F hr rfl b I (vs := [.ref a]) (us := [.ref a]) (.cons rfl .nil) hsp)

/-- bool(o) by its own __bool__ -/
def rBoolO (C : Addr) (sp : Sp) : List V → Hp → VK → Prop := fun xs H Q => ∃ a dx fs, xs = [.ref a] ∧ H a = some (.ins C dx fs) ∧ sp xs H (fun v H' => ∃ c, v = .bl c ∧ Q (.bl c) H') E0
theorem truthy_own {A : Around} {pins : List (Addr × Obj)} {σ : L2.St} {H : Hp} {s : Shared} {a dx : Addr} {fs : List (Str × V)} {Q : Bool → Hp → Prop} {E' : Value → Shared → Prop} (F : FnOk X.prog X.w X.K X.mg X.base CX0 k f fd ps sp) (hr : Room k A) (hfr : A.frames = X.A.frames)
    (b : Binds X.K fd ps []) (hs : SpF X.K C "__bool__" f) (I : Inv X pins σ H s) (ha : H a = some (.ins C dx fs)) (h : sp [.ref a] H (fun v H' => ∃ c, v = .bl c ∧ Q c H') E0) :
    wpAny (model X.prog X.w) A (truthy (.ref a)) (TP X pins σ Q) E' s := by
  obtain ⟨mA, O, _⟩ := ins_get I.hok ha
  obtain ⟨od, J, _⟩ := O.look
  obtain ⟨m, hF⟩ := I.fr
  refine PySem.W.truthy_K hF I.ok.mod.kin J hs.at_ hs.fn (thn (run_own (E' := E') F hr hfr b I (vs := [.ref a]) (us := [.ref a]) (.cons rfl .nil) h) fun u s' q => ?_)
  obtain ⟨v, H', I', r, c, rfl, q⟩ := q
  cases r
  exact ⟨H', I', q⟩
end
end Lau
end
section
/-! ## part R2 -/
set_option maxHeartbeats 4000000
namespace Lau
open PySem PySem.Spec PyProof.Rows L2
section
variable {prog : Program} {w : World} {A : Around} {E : Value → Shared → Prop} {s : Shared}
/-- bool(x), by the truth of x as the built-in asks it -/
theorem call_bool_truth {x : Value} {Q : Value → Shared → Prop} (ht : wpAny (model prog w) A.in1.in1 (truthy x) (fun b s' => Q (.bool b) s') (fun _ _ => False) s) : wpAny (model prog w) A (call (.type "bool") [x]) Q E s := by
  obtain ⟨c, tl, mroEq⟩ := F.called_bool.mro
  have madeEq := F.called_bool.made
  have subEq := F.called_bool.sub
  refine wpAny_call (codeAny_of_tree ?_)
  show wpAny _ _ (callAny (.type "bool") _) _ _ _
  refine wpAny_pure ⟨Code.quiet_builtin _ (by decide +kernel), codeAny_builtin F.entry_type_call ?_⟩
  rw [Around.under_plain (weight_type_call_type "bool" [x] []) (units_type_call_type "bool" [x] [])]
  have nt := F.called_bool.notType
  have cc := F.called_bool.canCreate
  repeat (any_goals (first | assumption | wp_step))
  refine codeAny_mono (codeAny_call_builtin F.called_bool.plain F.entry_bool_new (R := fun r s' => ∃ b, r = .ok (.ret (.bool b)) ∧ Q (.bool b) s') (wpAny_of_eq (F.newCall_bool_1 x) ?_)) fun r s₁ hr => ?_
  · unfold Builtin.«bool.__new__»
    have f1 := F.conv_sub_bool
    obtain ⟨hp, g, d, tk, os⟩ := s
    repeat (any_goals (first
      | assumption
      | (with_reducible refine wpAny_bind (m := truthy x) (wpAny_mono ht (fun b s' q => ?_) fun _ _ z => z.elim))
      | wp_step))
    all_goals first | exact ⟨_, rfl, q⟩ | skip
  · obtain ⟨b, rfl, hq⟩ := hr
    have hli := F.called_bool.init.lookup
    have hbi := F.called_bool.init.bind (.bool b)
    have hT : s₁.TypeIs (.bool b) "bool" := rfl
    repeat (any_goals (first | assumption | wp_step))
    refine codeAny_mono (codeAny_call_builtin (R := fun r s2 => r = .ok (.ret .none) ∧ s2 = s₁) F.called_bool.init.plain F.entry_object_init (F.called_bool.init.check _ _ _ _ _ _ _ _ hT (F.args_object_init_2 (.bool b) x)
      (object_init_meets F.called_bool.init.lookup F.called_bool.made F.newNe_bool prog w A.in1 (fun r s2 => r = .ok (.ret .none) ∧ s2 = s₁) s₁ ⟨hT, rfl, rfl⟩))) fun r₂ s₂ hr₂ => ?_
    obtain ⟨rfl, rfl⟩ := hr₂
    repeat (any_goals (first | assumption | wp_step))
end
section
variable {X : Cx} {k : Nat} {C f : Addr} {fd : FuncData} {ps : List Str} {sp : Sp}
theorem call_boolO (F : FnOk X.prog X.w X.K X.mg X.base CX0 k f fd ps sp) (hr : Room (k + 2) X.A) (b : Binds X.K fd ps []) (hs : SpF X.K C "__bool__" f) : CallR X (.type "bool") (rBoolO C sp) := by
  intro pins s σ H xs us Q I r h
  obtain ⟨a, dx, fs, rfl, ha, hsp⟩ := h
  obtain ⟨u, rfl, r1⟩ := vals1 r
  cases r1
  refine call_bool_truth (thn (truthy_own (A := X.A.in1.in1) (E' := fun _ _ => False) (Q := fun c H' => Q (.bl c) H') F hr.in1.in1 rfl b hs I ha hsp) fun c s' q => ?_)
  obtain ⟨H', I', q⟩ := q
  exact ⟨.bl c, H', I', rfl, q⟩
end
end Lau
end
section
/-! ## part R3 -/
set_option maxHeartbeats 4000000
namespace Lau
open PySem PySem.Spec PyProof.Rows L2
section
variable {prog : Program} {w : World} {A : Around} {E : Value → Shared → Prop} {s : Shared} {K : PySem.W.Frag} {x C L f : Addr} {h₀ : Heap} {m : Str → Option Value} {ox : Obj} {od : Option Obj} {b tb : Value}
theorem ne_entry {Q : Fin → Shared → Prop} (Xk : K.In s.heap) (I : PySem.W.InstAt s.heap x ox C od) (hs : PySem.W.findIn K (.ref C) "__eq__" = some (some (.ref f))) (hf : PySem.W.isFn K (.ref f) = true) (hu : A.units < cLine)
    (hc : wpAny (model prog w) A (call (.ref f) [.ref x, b]) (fun v s' => ∃ c, v = .bool c ∧ Q (.done (.ret (.bool (!c)))) s') E s) :
    wpAny (model prog w) A (Builtin.«object.__ne__» ⟨[.ref x, b], []⟩) Q E s := by
  unfold Builtin.«object.__ne__»
  repeat (first
    | with_reducible refine wpAny_cRoomFor hu ?_
    | (refine wpAny_bind (m := callSpecialIfBound? (.ref x) (Str.ofString "__eq__") [b])
        (PySem.W.ifBound_K Xk I hs hf (wpAny_mono hc (fun r s' hr => by
          obtain ⟨c, rfl, hq⟩ := hr
          repeat (first | exact hq | exact wpAny_pure hq | exact wpAny_truthy_bool hq | (refine wpAny_bind (m := truthy (.bool _)) (wpAny_truthy_bool ?_)) | wp_step)) fun _ _ e => e)))
    | wp_step)
theorem ne_own {Q : Value → Shared → Prop} (hu : A.units + 1 < cLine) (Xk : K.In s.heap) (I : PySem.W.InstAt s.heap x ox C od) (hb : PySem.W.Looks (model prog w) s.heap (typeOf b) tb) (hn : PySem.W.notFirst K C tb = true)
    (hne : PySem.W.findIn K (.ref C) "__ne__" = some (some (.builtin "object.__ne__"))) (hs : PySem.W.findIn K (.ref C) "__eq__" = some (some (.ref f))) (hf : PySem.W.isFn K (.ref f) = true) (hm : PySem.W.mroIn K C (.type "object") = some true)
    (hc : wpAny (model prog w) A.in1 (call (.ref f) [.ref x, b]) (fun v s' => ∃ c, v = .bool c ∧ Q (.bool (!c)) s') E s) : wpAny (model prog w) A (richCompare .NotEq (.ref x) b) Q E s := by
  have one : wpAny (model prog w) A (tryCompare (.ref x) "__ne__" b) (fun r s' => ∃ v, r = some v ∧ Q v s') E s := by
    unfold tryCompare
    have run : wpAny (model prog w) A (call (.builtin "object.__ne__") [.ref x, b]) (fun v s' => ∃ c, v = .bool c ∧ Q (.bool c) s') E s :=
      wpAny_call (codeAny_call_builtin F.cmp_object.ne.plain F.cmpEntry_ne (PySem.W.check_slot F.cmpKind_ne F.cmpSplit_ne (I.type.andThen (PySem.W.looks_mroIn Xk hm)) (F.cmpArgs_ne _ _)
        (ne_entry (A := A.in1) Xk I hs hf hu (wpAny_mono hc (fun v s' hv => by
          obtain ⟨c, rfl, hq⟩ := hv
          exact ⟨c, rfl, !c, rfl, hq⟩) fun _ _ e => e))))
    have bound : wpAny (model prog w) A (callSpecialIfBound? (.ref x) (Str.ofString "__ne__") [b]) (fun r s' => ∃ c, r = some (.bool c) ∧ Q (.bool c) s') E s := by
      have fin : wpAny (model prog w) A (call (.builtin "object.__ne__") ([.ref x] ++ [b]) >>= fun v => pure (some v)) (fun r s' => ∃ c, r = some (.bool c) ∧ Q (.bool c) s') E s := wpAny_bind (wpAny_mono run (fun v s' q => by
        obtain ⟨c, rfl, hq⟩ := q
        exact wpAny_pure ⟨c, rfl, hq⟩) fun _ _ z => z)
      simp only [callSpecialIfBound?, bindSpecialIfBound?]
      refine wpAny_holding (wpAny_bind (wpAny_bind (wpAny_bind (I.type.here ((PySem.W.looks_findIn Xk hne).here ?_)))))
      refine wpAny_bind (wpAny_askSetting (wpAny_ite ?_))
      split
      · exact wpAny_bind (wpAny_of_eq (F.cmp_object.ne.bind _) (wpAny_pure (by exact fin)))
      · exact wpAny_tryCatch (wpAny_bind (wpAny_of_eq (F.cmp_object.ne.bind _) (wpAny_pure (by exact fin))))
    refine wpAny_bind (wpAny_mono bound (fun r s' q => ?_) fun _ _ z => z)
    obtain ⟨c, rfl, hq⟩ := q
    exact wpAny_pure ⟨_, rfl, hq⟩
  unfold richCompare
  simp only [oneThing_ref]
  refine wpAny_holding (wpAny_bind (wpAny_cRoomFor (Nat.lt_of_succ_lt hu) ?_))
  refine wpAny_bind (I.type.here (wpAny_bind (hb.here ?_)))
  split
  · rename_i q
    have e : PySem.W.subIn K tb (.ref C) = some false := by
      rcases Bool.or_eq_true_iff.mp hn with e | e
      · rw [beq_iff_eq.mp e] at q; simp at q
      · exact beq_iff_eq.mp e
    refine wpAny_bind ((PySem.W.looks_subIn Xk e).here ?_)
    simp only [Bool.false_eq_true, if_false]
    refine wpAny_bind (wpAny_mono one (fun r s' z => ?_) fun _ _ e => e)
    obtain ⟨v, rfl, hq⟩ := z
    exact wpAny_pure hq
  · refine wpAny_bind (wpAny_pure ?_)
    simp only [Bool.false_eq_true, if_false]
    refine wpAny_bind (wpAny_mono one (fun r s' z => ?_) fun _ _ e => e)
    obtain ⟨v, rfl, hq⟩ := z
    exact wpAny_pure hq
end
section
variable {X : Cx} {k : Nat} {C f : Addr} {fd : FuncData} {ps : List Str} {sp : Sp}
/-- o == y, o != y by the own __eq__ -/
def rOwnC (C : Addr) (sp : Sp) (g : Bool → Bool) : R2 := fun x y H Q => ∃ a dx fs, x = .ref a ∧ H a = some (.ins C dx fs) ∧ ((∃ b dy gs, y = .ref b ∧ H b = some (.ins C dy gs)) ∨ (∃ i, y = .int i) ∨ ∃ z, y = .str z) ∧ sp [x, y] H (fun v H' => ∃ c, v = .bl c ∧ Q (.bl (g c)) H') E0
theorem types_of {pins : List (Addr × Obj)} {σ : L2.St} {H : Hp} {s : Shared} {y : V} {u : Value} {M : Model} (o : OwnF X.K C) (I : Inv X pins σ H s) (ry : RelV y u) (hy : (∃ b dy gs, y = .ref b ∧ H b = some (.ins C dy gs)) ∨ (∃ i, y = .int i) ∨ ∃ z, y = .str z) :
    ∃ tb, PySem.W.Looks M s.heap (typeOf u) tb ∧ PySem.W.notFirst X.K C tb = true := by
  rcases hy with ⟨b', dy, gs, rfl, hb⟩ | ⟨i, rfl⟩ | ⟨z, rfl⟩
  · cases ry
    obtain ⟨mB, O', _⟩ := ins_get I.hok hb
    obtain ⟨od', J', _⟩ := O'.look
    exact ⟨_, J'.type, by simp [PySem.W.notFirst]⟩
  · obtain ⟨t, rfl⟩ := ry
    exact ⟨.type "int", PySem.W.Looks.of_pure rfl, by unfold PySem.W.notFirst; rw [o.sInt]; simp⟩
  · obtain ⟨t, rfl⟩ := ry
    exact ⟨.type "str", PySem.W.Looks.of_pure rfl, by unfold PySem.W.notFirst; rw [o.sStr]; simp⟩
theorem op_eqO (F : FnOk X.prog X.w X.K X.mg X.base CX0 k f fd ps sp) (hr : Room k X.A) (b : Binds X.K fd ps []) (o : OwnF X.K C) (hs : SpF X.K C "__eq__" f) : OpR X (compareOp .Eq) (rOwnC C sp id) := by
  intro pins s σ H x y v u Q I rx ry h
  obtain ⟨a, dx, fs, rfl, ha, hy, hsp⟩ := h
  cases rx
  obtain ⟨mA, O, _⟩ := ins_get I.hok ha
  obtain ⟨od, J, _⟩ := O.look
  obtain ⟨m, hF⟩ := I.fr
  obtain ⟨tb, hb, hn⟩ := types_of (M := model X.prog X.w) o I ry hy
  have go := run_own (E' := X.xe) F hr rfl b I (vs := [.ref a, y]) (us := [.ref a, u]) (.cons rfl (.cons ry .nil)) hsp
  show wpAny _ _ (richCompare .Eq (.ref a) u) _ _ _
  refine PySem.W.cmp_K (op := .Eq) hr.units0 hF I.ok.mod.kin J hb hn hs.at_ hs.fn (thn go fun u' s' q => ?_)
  obtain ⟨v, H', I', r, c, rfl, q⟩ := q
  cases r
  exact ⟨.bl c, H', I', rfl, q⟩
theorem op_neO (F : FnOk X.prog X.w X.K X.mg X.base CX0 k f fd ps sp) (hr : Room (k + 1) X.A) (b : Binds X.K fd ps []) (o : OwnF X.K C) (hs : SpF X.K C "__eq__" f) (hne : PySem.W.findIn X.K (.ref C) "__ne__" = some (some (.builtin "object.__ne__"))) :
    OpR X (compareOp .NotEq) (rOwnC C sp Bool.not) := by
  intro pins s σ H x y v u Q I rx ry h
  obtain ⟨a, dx, fs, rfl, ha, hy, hsp⟩ := h
  cases rx
  obtain ⟨mA, O, _⟩ := ins_get I.hok ha
  obtain ⟨od, J, _⟩ := O.look
  obtain ⟨tb, hb, hn⟩ := types_of (M := model X.prog X.w) o I ry hy
  have go := run_own (A := X.A.in1) (E' := X.xe) F hr.in1 rfl b I (vs := [.ref a, y]) (us := [.ref a, u]) (.cons rfl (.cons ry .nil)) hsp
  show wpAny _ _ (richCompare .NotEq (.ref a) u) _ _ _
  have hu : X.A.units + 1 < cLine := hu_of hr
  refine ne_own hu I.kIn J hb hn hne hs.at_ hs.fn o.top (thn go fun u' s' q => ?_)
  obtain ⟨v, H', I', r, c, rfl, q⟩ := q
  cases r
  exact ⟨c, rfl, .bl (!c), H', I', rfl, q⟩
end
end Lau
end
section
/-! ## part R4 -/
set_option maxHeartbeats 4000000
namespace Lau
open PySem PySem.Spec PyProof.Rows L2
/-! defs that ask that no repr is under way (Around.guards), and repr itself -/
structure FnG (P : Program) (w : World) (K : PySem.W.Frag) (mg : Str → Option Value) (base : Heap) (k : Nat) (f : Addr) (fd : FuncData) (ps : List Str) (sp : Sp) : Prop where
  len : ∀ vs H Q E, sp vs H Q E → vs.length = ps.length
  run : ∀ (A : Around) (outer : List Env) (s : Shared) (H : Hp) (args : Args) (us : List Value) (vs : List V) (Q : VK), Room k A → A.guards = some [] → Env0 P w K mg base A outer s H → BindsTo s fd args (ps.zip us) → Vals vs us → sp vs H Q E0 →
    codeAny (model P w) A (.call (.ref f) args) (CR CX0 outer P w H s Q E0) s
/-- a def that may be called by its name where no repr is under way -/
structure CalG (P : Program) (w : World) (K : PySem.W.Frag) (mg : Str → Option Value) (base : Heap) (k : Nat) (x : Str) (sp : Sp) : Prop where
  ex : ∃ (f : Addr) (fd : FuncData) (ps : List Str), FnG P w K mg base k f fd ps sp ∧ mg x = some (.ref f) ∧ PySem.W.keepIn K (.ref f) = true ∧ Binds K fd ps []
section
variable {P : Program} {w : World} {K : PySem.W.Frag} {mg : Str → Option Value} {base : Heap} {k : Nat} {N ps : List Str} {sp : Sp} {x qual : Str} {params : Arguments} {body : List Stmt} {scope : Scope} {dvs : List V} {kws : List (Str × V)} {f : Addr} {fd : FuncData}
theorem fnG_of (F : FunD K x qual params body scope dvs kws f fd) (S : FnScope N ps scope) (len : ∀ vs H Q E, sp vs H Q E → vs.length = ps.length)
    (hbody : ∀ (cdv : Value) (A : Around) (outer : List Env) (s : Shared) (H : Hp) (vs : List V) (Q : VK), Room k (A.deeper (envOfC qual scope s.heap.objs.size f cdv)) → A.guards = some [] → sp vs H Q E0 →
      ∃ t, PSs (cxOf CX0 P w K mg base N qual scope f cdv A outer s H E0).nox body t ∧ t { nx := fun _ H' => Q .non H', rt := Q } (start N vs) H) : FnG P w K mg base (k + 1) f fd ps sp := by
  obtain ⟨oc, od, dV, kV, doc, pm, an, cdv, ct, osl, rfl, lk, hcd, _, _⟩ := F.ex
  refine ⟨len, fun A outer s H args us vs Q hr hg e0 hb r hsp => ?_⟩
  have hl := len _ _ _ _ hsp
  have kin : K.In s.heap := e0.mod.kin.keeps fun b o e => (e0.bs b o e).1
  have lim : s.heap.NoLimit := e0.mod.nolimit.keeps fun b o e => (e0.bs b o e).1
  have kinds : ∀ y ∈ ps.zip us, scope.names.lookup y.1 = some .local ∨ (scope.names.lookup y.1 = some .cell ∧ ((cellsFrom (s.heap.objs.size + 1) scope.names []).lookup y.1).isSome = true) := fun ⟨n, v⟩ hy => by
    rcases S.par n (List.of_mem_zip hy).1 with q | q
    · exact .inl q
    · exact .inr ⟨q, PySem.W.cellsFrom_some _ _ _ (.inl q)⟩
  refine codeAny_call_function hr.depth (kin _ _ lk) rfl S.co S.gen rfl (PySem.W.codeRec_of kin hcd) (hb _ _ _ _ ?_)
  refine wpAny_newFunctionEnv_cells S.kind kinds fun env he s1 xc => ?_
  subst he
  refine ⟨lim.keeps xc.toInCall.keep, codeAny_func ?_⟩
  obtain ⟨t, ht0, hq⟩ := hbody cdv A outer s H vs Q (hr.deeper _) hg hsp
  have ht : PSs (cxOf CX0 P w K mg base N qual scope f cdv A outer s H E0) body t := ht0.nox
  have I : Inv (cxOf CX0 P w K mg base N qual scope f cdv A outer s H E0) [] (start N vs) H s1 := inv_start S hr.hd e0 hl r xc
  refine wpAny_mono (ht.run [] s1 (start N vs) H _ I hq) (fun fl s' hs => ?_) fun e s' hs => hs
  cases fl with
  | ret u =>
    obtain ⟨v, σ', H', J, rv, q⟩ := hs
    exact ⟨v, H', J.os, J.bare, J.base, J.hok, rv, q⟩
  | next =>
    obtain ⟨σ', H', J, q⟩ := hs
    exact ⟨.non, H', J.os, J.bare, J.base, J.hok, rfl, q⟩
  | brk =>
    obtain ⟨_, _, _, q⟩ := hs
    exact False.elim q
  | cont =>
    obtain ⟨_, _, _, q⟩ := hs
    exact False.elim q
end
section
variable {X : Cx} {k j : Nat} {x : Str} {sp : Sp} {p pos : Pos} {e : Expr} {es : List Expr} {t : TA}
theorem run_fnG {pins : List (Addr × Obj)} {σ : L2.St} {H : Hp} {s : Shared} {Q : VK} {us : List Value} {vs : List V} {f : Addr} {fd : FuncData} {ps : List Str} (F : FnG X.prog X.w X.K X.mg X.base k f fd ps sp) (hr : Room k X.A) (hg : X.A.guards = some []) (hb : Binds X.K fd ps [])
    (I : Inv X pins σ H s) (r : Vals vs us) (h : sp vs H Q E0) : wpAny (model X.prog X.w) X.A (call (.ref f) us) (EP X pins σ Q) X.xe s := by
  have hl := F.len _ _ _ _ h
  refine wpAny_call (codeAny_mono (F.run X.A X.stack s H ⟨us, []⟩ us vs Q hr hg I.env0 (by
    have := hb s us I.kIn (by rw [List.append_nil, ← hl]; exact r.length.symm)
    simpa using this) r h) fun r s' hq => ?_)
  cases r with
  | error e => exact hq.elim
  | ok fl =>
    cases fl with
    | ret u => exact I.after hq
    | next => exact False.elim hq
    | brk => exact False.elim hq
    | cont => exact False.elim hq
theorem pe_g (c : CalG X.prog X.w X.K X.mg X.base k x sp) (hr : Room j X.A) (hk : k ≤ j) (hgd : X.A.guards = some []) (hg : Gl X x) (ha : PA X (e :: es) t)
    (hdb : (x == ("__debug__" : Str)) = false := by decide) (he : starEach (e :: es) X.env = (false, eval e X.env) :: starEach es X.env := by rfl) (hpl : (backTo pos (starEach es X.env)).any (·.1) = false := by rfl) :
    PE X (.Call (.Name x p) (e :: es) [] pos) (tCall sp [] E0 t) := by
  obtain ⟨f, fd, ps, F, hm, kp, b⟩ := c.ex
  refine ⟨fun pins s σ H Q I h => ?_⟩
  refine wpAny_Call_Name_kw (ld_glob I hg hm ?_ hdb)
  refine PySem.W.callWith_K (h₀ := X.base) I.ok.mod.kin kp (thn (ha.run pos pins s σ H _ I h) fun us s1 ⟨vs, H1, I1, r, q⟩ => ⟨I1.kIn, ?_⟩) he hpl
  exact run_fnG F (hr.mono hk) hgd b I1 r (by have q2 : sp (vs ++ []) H1 Q E0 := q; rw [List.append_nil] at q2; exact q2)
end

/-! ### repr -/
def rRepr (K : PySem.W.Frag) : List V → Hp → VK → Prop := fun xs H Q => ∃ (a : Addr) (d : PyData), xs = [.ref a] ∧ Dp K H (.ref a) d ∧ d.showable = true ∧ d.hasDict = false ∧ d.depth ≤ 20 ∧ d.shown.length ≤ sizeLine ∧ Q (.str d.shown) H
section
variable {X : Cx} {k : Nat}
theorem call_reprD (hr : Room k X.A) (hg : X.A.guards = some []) : CallR X (.builtin "repr") (rRepr X.K) := by
  intro pins s σ H xs us Q I r h
  obtain ⟨a, d, rfl, hd, h1, h2, h3, h4, q⟩ := h
  obtain ⟨u, rfl, r1⟩ := vals1 r
  cases r1
  obtain ⟨as, rd⟩ := Dp.reads I d _ _ hd (show RelV (.ref a) (.ref a) from rfl)
  have hu := hr.units
  exact repr_of_reads' rd h1 (PyData.noDict_hsm h2) hg (by omega) (fun _ _ e => e) (fun h' u tk kp => ⟨.str d.shown, H, I.kept (t' := tk) kp, ⟨u, rfl⟩, q⟩) h4
theorem call_reprB : CallR X (.builtin "repr") (fun xs H Q => ∃ b : Bool, xs = [.bl b] ∧ Q (.str (if b then "True" else "False")) H) := by
  intro pins s σ H xs us Q I r h
  obtain ⟨b, rfl, q⟩ := h
  obtain ⟨u, rfl, r1⟩ := vals1 r
  cases r1
  refine PySem.P.repr_of_bool ⟨.str (if b then "True" else "False"), H, I.tok _, ?_, q⟩
  cases b <;> exact ⟨_, rfl⟩
end
end Lau
end
section
/-! ## part R5 -/
set_option maxHeartbeats 4000000
namespace Lau
open PySem PySem.Spec PyProof.Rows L2
/-! calls by keywords alone; staticmethods -/
section
variable {K : PySem.W.Frag} {x qual : Str} {params : Arguments} {body : List Stmt} {scope : Scope} {kws : List (Str × V)} {f : Addr} {fd : FuncData} {ps : List Str}
/-- how keywords bind where no default stands -/
theorem kbN (F : FunD K x qual params body scope [] kws f fd) (n : Nat) (ks : List Str) (g : {α : Type} → List α → List α → List α) (hrel : ∀ {vs zs : List V} {us ws : List Value}, Vals vs us → Vals zs ws → Vals (g vs zs) (g us ws))
    (h : ∀ (kV doc pm : Value) (an : Option Addr) (cdv ct : Value) (us ws : List Value), us.length = n → ws.length = ks.length → bindArgs (PySem.W.fnOf x qual params body scope .none kV doc pm an cdv ct) ⟨us, ks.zip ws⟩ = pure (ps.zip (g us ws))) :
    KBn K fd ps n ks (fun us ws => g us ws) (fun vs zs => g vs zs) := by
  obtain ⟨oc, od, dV, kV, doc, pm, an, cdv, ct, osl, rfl, lk, hcd, hD, hK⟩ := F.ex
  rcases hD with ⟨_, rfl⟩ | ⟨e, _⟩
  · exact ⟨fun s us ws X l1 l2 => .of_eq (h kV doc pm an cdv ct us ws l1 l2), fun r1 r2 => hrel r1 r2⟩
  · exact absurd rfl e
end
def tKw (m : Nat) (sp : Sp) (gV : List V → List V) (tk : TA) : TE := fun σ H Q => tk σ H fun zs H1 => zs.length = m ∧ sp (gV zs) H1 Q E0
def tMethKw (C : Addr) (name : Str) (m : Nat) (sp : Sp) (gV : List V → List V → List V) (ta : TE) (tk : TA) : TE := fun σ H Q => ta σ H fun x H1 => ∃ a dx fs, x = .ref a ∧ H1 a = some (.ins C dx fs) ∧ fs.lookup name = none ∧ tk σ H1 fun zs H2 => zs.length = m ∧ sp (gV [x] zs) H2 Q E0
section
variable {X : Cx} {k n : Nat} {f C : Addr} {fd : FuncData} {ps ks : List Str} {sp : Sp} {x : Str} {p pos : Pos} {kws : List Keyword} {tk : TA} {g : List Value → List Value → List Value} {gV : List V → List V → List V}
/-- f(k = v, ..) -/
theorem pe_callKw0 (F : FnOk X.prog X.w X.K X.mg X.base CX0 k f fd ps sp) (hr : Room k X.A) (hg : Gl X x) (hm : X.mg x = some (.ref f)) (hk : PySem.W.keepIn X.K (.ref f) = true) (hb : KBn X.K fd ps 0 ks g gV) (hkw : PK X kws tk)
    (hall : (backToKw pos (keywordEach kws X.env)).all (·.1.isSome) = true := by rfl) (hks : (backToKw pos (keywordEach kws X.env)).filterMap (·.1) = ks := by rfl) (hdb : (x == ("__debug__" : Str)) = false := by decide)
    (hpl : ((backTo pos (starEach [] X.env)).any (·.1) || (backToKw pos (keywordEach kws X.env)).any (·.1.isNone)) = false := by rfl) :
    PE X (.Call (.Name x p) [] kws pos) (tKw ks.length sp (gV []) tk) := by
  refine ⟨fun pins s σ H Q I h => ?_⟩
  refine wpAny_Call_Name_kw (ld_glob I hg hm ?_ hdb)
  refine PySem.W.callWith_KW0 (h₀ := X.base) I.ok.mod.kin hk hall ?_ hpl
  refine thn (hkw.run pos pins s σ H _ I h) fun ws s2 ⟨zs, H2, I2, rz, l2, q2⟩ => ⟨I2.kIn, ?_⟩
  rw [hks]
  exact run_fnN (us := []) (vs := []) F hr hb pass0 I2 .nil rz rfl l2 q2
/-- o.m(k = v, ..) -/
theorem pe_methKw0 {pl : Sem Bool} {o : Expr} {m : Str} {apos : Pos} {ta : TE} (he : PE X o ta) (c : Cls X.K C) (hm : Meth X.K C m f) (F : FnOk X.prog X.w X.K X.mg X.base CX0 k f fd ps sp) (hr : Room k X.A) (hb : KBn X.K fd ps 1 ks g gV) (hkw : PK X kws tk)
    (hall : (backToKw pos (keywordEach kws X.env)).all (·.1.isSome) = true := by rfl) (hks : (backToKw pos (keywordEach kws X.env)).filterMap (·.1) = ks := by rfl)
    (hpl : ((backTo pos (starEach [] X.env)).any (·.1) || (backToKw pos (keywordEach kws X.env)).any (·.1.isNone)) = false := by rfl)
    (ht : eval (.Call (.Attribute o m apos) [] kws pos) X.env = (do
      let ov ← eval o X.env
      standAt apos.atName
      let (f, first) ← holding [ov] (getMethod ov m pl)
      callWith pos f first (backTo pos (starEach [] X.env)) (backToKw pos (keywordEach kws X.env))) := by rfl) :
    PE X (.Call (.Attribute o m apos) [] kws pos) (tMethKw C m ks.length sp gV ta tk) := by
  refine ⟨fun pins s σ H Q I h => ?_⟩
  refine PySem.W.methodCall_KW (pl := pl) (thn (he.run pins s σ H _ I h) fun u s1 ⟨y, H1, I1, rx, a, dx, fs, ex, ea, l, q⟩ => ?_) ht
  subst ex
  obtain rfl : u = Value.ref a := rx
  refine getmeth_ok I1 ea c hm l ?_
  refine PySem.W.callWith_KW0 (first := [.ref a]) (h₀ := X.base) I.ok.mod.kin hm.kp hall ?_ hpl
  refine thn (hkw.run pos pins s1 σ H1 _ I1 q) fun ws s2 ⟨zs, H2, I2, rz, l2, q2⟩ => ⟨I2.kIn, ?_⟩
  rw [hks]
  exact run_fnN (us := [.ref a]) (vs := [.ref a]) F hr hb pass0 I2 (.cons rfl .nil) rz rfl l2 q2
/-- a staticmethod of the class at C: its record at q, its def at f -/
structure StatF (K : PySem.W.Frag) (C : Addr) (m : Str) (q f : Addr) : Prop where
  at_ : PySem.W.findCls K (.ref C) (.type "type") m = some (.get (.builtin "staticmethod.__get__") (.ref q) .none (.ref C))
  rc : ∃ rest, PySem.W.recIn K q "staticmethod" = some (.ref f :: rest)
  rd : ClX.CRead K C (.type "type")
  ty : PySem.W.typeIn K (.ref C) = some (.type "type")
  kp : PySem.W.keepIn K (.ref f) = true
theorem getstat_ok {pins : List (Addr × Obj)} {σ : L2.St} {H : Hp} {s : Shared} {A : Around} {E : Value → Shared → Prop} {m : Str} {q : Addr} {pl : Sem Bool} {Q : Value × List Value → Shared → Prop} (I : Inv X pins σ H s) (S : StatF X.K C m q f)
    (h : ∀ s', Inv X pins σ H s' → Q (.ref f, []) s') : wpAny (model X.prog X.w) A (getMethod (.ref C) m pl) Q E s := by
  obtain ⟨rest, hp⟩ := S.rc
  obtain ⟨mm, hF⟩ := I.fr
  exact PySem.W.method_cls I.kIn S.rd.ga (PySem.W.cls_sm hF I.ok.mod.kin S.ty S.rd.rd S.at_ hp rfl (h _ (I.tok _)))
/-- C.m(e, ..) -/
theorem pe_stat {pl : Sem Bool} {o e : Expr} {es : List Expr} {m : Str} {q : Addr} {apos : Pos} {t : TA} (he : PE X o (tC (.ref C))) (S : StatF X.K C m q f) (F : FnOk X.prog X.w X.K X.mg X.base CX0 k f fd ps sp) (hr : Room k X.A) (hb : Binds X.K fd ps []) (ha : PA X (e :: es) t)
    (hst : starEach (e :: es) X.env = (false, eval e X.env) :: starEach es X.env := by rfl) (hpl : (backTo pos (starEach es X.env)).any (·.1) = false := by rfl)
    (ht : eval (.Call (.Attribute o m apos) (e :: es) [] pos) X.env = (do
      let ov ← eval o X.env
      standAt apos.atName
      let (f, first) ← holding [ov] (getMethod ov m pl)
      callWith pos f first (backTo pos (starEach (e :: es) X.env)) (backToKw pos (keywordEach [] X.env))) := by rfl) :
    PE X (.Call (.Attribute o m apos) (e :: es) [] pos) (tCall sp [] E0 t) := by
  refine ⟨fun pins s σ H Q I h => ?_⟩
  refine PySem.W.methodCall_KW (pl := pl) (thn (he.run pins s σ H (fun v H1 => v = .ref C ∧ H1 = H) I ⟨rfl, rfl⟩) fun u s1 ⟨y, H1, I1, rx, ex, e2⟩ => ?_) ht
  subst ex
  subst e2
  obtain rfl : u = Value.ref C := rx
  refine getstat_ok I1 S fun s2 I2 => ?_
  refine PySem.W.callWith_K (h₀ := X.base) I.ok.mod.kin S.kp (thn (ha.run pos pins s2 σ H1 _ I2 h) fun us s3 ⟨vs, H2, I3, r, q2⟩ => ⟨I3.kIn, ?_⟩) hst hpl
  exact run_fn F hr hb .nil pass0 I3 r q2
/-- C.m(k = v, ..) -/
theorem pe_statKw0 {pl : Sem Bool} {o : Expr} {m : Str} {q : Addr} {apos : Pos} (he : PE X o (tC (.ref C))) (S : StatF X.K C m q f) (F : FnOk X.prog X.w X.K X.mg X.base CX0 k f fd ps sp) (hr : Room k X.A) (hb : KBn X.K fd ps 0 ks g gV) (hkw : PK X kws tk)
    (hall : (backToKw pos (keywordEach kws X.env)).all (·.1.isSome) = true := by rfl) (hks : (backToKw pos (keywordEach kws X.env)).filterMap (·.1) = ks := by rfl)
    (hpl : ((backTo pos (starEach [] X.env)).any (·.1) || (backToKw pos (keywordEach kws X.env)).any (·.1.isNone)) = false := by rfl)
    (ht : eval (.Call (.Attribute o m apos) [] kws pos) X.env = (do
      let ov ← eval o X.env
      standAt apos.atName
      let (f, first) ← holding [ov] (getMethod ov m pl)
      callWith pos f first (backTo pos (starEach [] X.env)) (backToKw pos (keywordEach kws X.env))) := by rfl) :
    PE X (.Call (.Attribute o m apos) [] kws pos) (tKw ks.length sp (gV []) tk) := by
  refine ⟨fun pins s σ H Q I h => ?_⟩
  refine PySem.W.methodCall_KW (pl := pl) (thn (he.run pins s σ H (fun v H1 => v = .ref C ∧ H1 = H) I ⟨rfl, rfl⟩) fun u s1 ⟨y, H1, I1, rx, ex, e2⟩ => ?_) ht
  subst ex
  subst e2
  obtain rfl : u = Value.ref C := rx
  refine getstat_ok I1 S fun s2 I2 => ?_
  refine PySem.W.callWith_KW0 (h₀ := X.base) I.ok.mod.kin S.kp hall ?_ hpl
  refine thn (hkw.run pos pins s2 σ H1 _ I2 h) fun ws s3 ⟨zs, H2, I3, rz, l2, q2⟩ => ⟨I3.kIn, ?_⟩
  rw [hks]
  exact run_fnN (us := []) (vs := []) F hr hb pass0 I3 .nil rz rfl l2 q2
end
end Lau
end
section
/-! ## part R6 -/
set_option maxHeartbeats 4000000
namespace Lau
open PySem PySem.Spec PyProof.Rows L2
/-! t[::-1] of a tuple; t * 0, t * 1 -/
theorem back_pick (xs : Array Value) : ((List.range xs.size).filterMap fun (m : Nat) => xs[(((xs.size : Int) - 1) + (m : Int) * (-1)).toNat]?) = xs.toList.reverse := by
  rw [← PySem.W.krv_all xs, ← List.filterMap_reverse, ← PySem.W.krv_range, List.filterMap_map]
  have key : ∀ l : List Nat, (∀ m ∈ l, m < xs.size) → (l.filterMap fun (m : Nat) => xs[(((xs.size : Int) - 1) + (m : Int) * (-1)).toNat]?) = l.filterMap ((fun i => xs[i]?) ∘ fun k => xs.size - 1 - k) := by
    intro l
    induction l with
    | nil => intro _; rfl
    | cons a l ih =>
      intro hl
      have ha := hl a List.mem_cons_self
      have e : (((xs.size : Int) - 1) + (a : Int) * (-1)).toNat = xs.size - 1 - a := by omega
      rw [List.filterMap_cons, List.filterMap_cons, ih fun m hm => hl m (List.mem_cons_of_mem _ hm), e]
      rfl
  exact key _ fun m hm => List.mem_range.mp hm
section
variable {prog : Program} {w : World} {A : Around} {E : Value → Shared → Prop} {s : Shared}
theorem applied_back {sl : Addr} {t : Tok} {n : Nat} {Q : Int × Int × Nat → Shared → Prop} (hs : s.heap.IsSliceOf sl .none .none (.int (-1) t)) (h : Q ((n : Int) - 1, -1, n) s) :
    wpAny (model prog w) A (Builtin.Slice.sliceApplied (.ref sl) (pure (n : Int))) Q E s := by
  obtain ⟨os, hos, hcs, hds⟩ := id hs
  unfold Builtin.Slice.sliceApplied Builtin.Slice.sliceFields
  refine wpAny_bind (wpAny_bind (wpAny_field hos hds (x := .none) rfl (wpAny_bind (wpAny_field hos hds (x := .none) rfl (wpAny_bind (wpAny_field hos hds (x := .int (-1) t) rfl (wpAny_pure ?_)))))))
  refine wpAny_bind (HT.slicePart_ (.int (-1) t) ?_)
  show wpAny _ _ (if ((-1 : Int) == 0) = true then _ else _) _ _ s
  rw [if_neg (by decide)]
  refine wpAny_bind (HT.slicePart_ .none (wpAny_bind (HT.slicePart_ .none (wpAny_bind (wpAny_pure ?_)))))
  have e1 : Builtin.Slice.sliceAdjust none none (-1) (n : Int) = ((n : Int) - 1, -1) := rfl
  have e2 : Builtin.Slice.slicePlaces ((n : Int) - 1) (-1) (-1) = n := by
    unfold Builtin.Slice.slicePlaces
    rw [if_neg (by decide)]
    by_cases h0 : n = 0
    · subst h0
      rfl
    · rw [if_pos (by omega)]
      have : ((n : Int) - 1 - -1 - 1) / (- -1) + 1 = (n : Int) := by
        rw [show (- -1 : Int) = 1 by decide, Int.ediv_one]
        omega
      rw [this]
      exact Int.toNat_natCast n
  show wpAny _ _ (match Builtin.Slice.sliceAdjust none none (-1) (n : Int) with | (lo, hi) => pure (lo, (-1 : Int), Builtin.Slice.slicePlaces lo hi (-1))) _ _ s
  rw [e1]
  show wpAny _ _ (pure ((n : Int) - 1, (-1 : Int), Builtin.Slice.slicePlaces ((n : Int) - 1) (-1) (-1))) _ _ s
  rw [e2]
  exact wpAny_pure h
theorem getItem_back {t sl : Addr} {tk : Tok} {items : Array Value} {Q : Value → Shared → Prop} (ht : IsTup s.heap t items) (hs : s.heap.IsSliceOf sl .none .none (.int (-1) tk))
    (h : Q (.ref s.heap.objs.size) { s with heap := s.heap.push { cls := .type "tuple", data := .seq items.toList.reverse.toArray } }) (hsz : items.size ≤ sizeLine) : wpAny (model prog w) A (getItem (.ref t) (.ref sl)) Q E s := by
  obtain ⟨os, hos, hcs, hds⟩ := id hs
  have hTs : s.TypeIs (.ref sl) "slice" := ⟨os, hos, hcs⟩
  unfold getItem
  try with_reducible refine wpAny_holding ?_
  first | refine wpAny_bind (wpAny_pure ?_) | skip
  refine wpAny_bind (wpAny_sequenceKey ht.typeIs (by decide) ?_)
  refine wpAny_bind (wpAny_callSpecial?_slot (name := Str.ofString "__getitem__") ht.typeIs PyProof.Rows.slot_tuple_getitem
    (wpAny_call_entry PyProof.Rows.slot_tuple_getitem ht.typeIs entry_tuple_getitem ?_ (args_tuple_getitem _ _)))
  show wpAny _ _ (Builtin.Tuple.tupleItemsOf (.ref t) >>= _) _ _ s
  refine wpAny_bind (tupleItemsOf_ ht ?_)
  refine wpAny_bind (wpAny_typeOf hTs ?_)
  rw [if_pos (by decide)]
  refine wpAny_bind (applied_back hs ?_)
  have hno : ¬ ((((items.size : Int) - 1 == 0) && ((-1 : Int) == 1)) && (items.size == items.size)) = true := by simp
  show wpAny _ _ (if ((((items.size : Int) - 1 == 0) && ((-1 : Int) == 1)) && (items.size == items.size)) = true then _ else _) _ _ s
  rw [if_neg hno]
  dsimp only
  rw [back_pick]
  have fit : sizeOk (.seq items.toList.reverse.toArray) := by
    show items.toList.reverse.toArray.size ≤ sizeLine
    rw [List.size_toArray, List.length_reverse, Array.length_toList]
    exact hsz
  exact wpAny_bind (m := Builtin.Tuple.tupleExact _) (wpAny_newObj_type (wpAny_pure ⟨_, rfl, wpAny_pure h⟩) fit)
end
/-- t[::-1] -/
def tRevT (K : PySem.W.Frag) (te : TE) : TE := fun σ H Q => te σ H fun x H1 => ∃ a xs, x = .ref a ∧ SqT K H1 a xs ∧ ∀ p, H1 p = none → Q (.ref p) (upd H1 p (.tup xs.reverse))
theorem pe_revT {X : Cx} {e : Expr} {te : TE} {k : Nat} {p1 p2 p3 pos : Pos} (he : PE X e te) : PE X (.Subscript e (.Slice none none (some (.UnaryOp .USub (.Constant (.int 1) k p1) p2)) p3) pos) (tRevT X.K te) := by
  refine ⟨fun pins s σ H Q I h => ?_⟩
  refine Subscript_ (thn (he.run pins s σ H _ I h) fun v s1 ⟨x, H1, I1, r1, q1⟩ => ?_)
  obtain ⟨a, xs, ex, hx, q⟩ := q1
  subst ex
  cases r1
  have part : PO X (some (.UnaryOp .USub (.Constant (.int 1) k p1) p2)) (tPart (tUn (rU fun i => .int (-i)) (tC (.int 1)))) := po_some (pe_un un_neg pe_int)
  refine wpAny_Slice (thn (po_none.run pins s1 σ H1 (fun o H2 => o = none ∧ H2 = H1) I1 ⟨rfl, rfl⟩) fun vl s2 ⟨l, H2, I2, pl, el, e2⟩ => ?_)
  subst el e2
  refine thn (po_none.run pins s2 σ H2 (fun o H3 => o = none ∧ H3 = H2) I2 ⟨rfl, rfl⟩) fun vu s3 ⟨u, H3, I3, pu, eu, e3⟩ => ?_
  subst eu e3
  refine thn (part.run pins s3 σ H3 (fun o H4 => o = some (-1) ∧ H4 = H3) I3 ⟨1, rfl, -1, rfl, rfl, rfl⟩) fun vs s4 ⟨o, H4, I4, ps, eo, e4⟩ => ?_
  subst eo e4
  cases pl
  cases pu
  cases ps with
  | int _ tk =>
    have I5 : Inv X pins σ H4 { s4 with heap := s4.heap.push { cls := .type "slice", data := .fields #[.none, .none, .int (-1) tk] } } := I4.kept (t' := s4.toks) fun b ob q => Heap.get?_push_of_some _ q
    obtain ⟨its, r, ht, hz⟩ := I5.tuple hx
    have hlen := r.length
    show wpAny (model X.prog X.w) X.A (subscriptTail e (.Slice none none (some (.UnaryOp .USub (.Constant (.int 1) k p1) p2)) p3) (.ref a) (.ref s4.heap.objs.size)) (EP X pins σ Q) X.xe { s4 with heap := s4.heap.push { cls := .type "slice", data := .fields #[.none, .none, .int (-1) tk] } }
    refine tail_any (ops := [.ref a, .ref s4.heap.objs.size]) ht.typeIs PyProof.Rows.slot_tuple_getitem.lookup ?_ (by with_unfolding_all rfl)
    refine getItem_back ht (Heap.IsSliceOf.new _ .none .none (.int (-1) tk)) ?_ (by rw [List.size_toArray]; omega)
    refine ⟨.ref _, _, I5.laid (t' := s4.toks) (o := .tup xs.reverse) (fun b ob q => Heap.get?_push_of_some _ q) (Nat.le_refl _) ?_, rfl, q _ (I5.hok.fresh (Nat.le_refl _))⟩
    exact ⟨by rw [List.length_reverse]; exact hz, _, r.reverse, IsTup.new _ _⟩
end Lau
end
section
/-! ## part R7 -/
set_option maxHeartbeats 4000000
/-! enumerate(t), t a tuple -/
namespace PySem
open Sem (wp)
theorem meets_enum_tup (l : Addr) (items : Array Value) (n : Nat) (dct : Option Addr) (sl : Array (Option Value)) :
    Meets (Builtin.«enumerate.__new__» ⟨[.type "enumerate", .ref l], []⟩) (fun _ R s => s.heap.get? l = some { cls := .type "tuple", dict := dct, data := .seq items n, slots := sl } ∧
      R (.ok (.ret (.ref (s.heap.push { cls := .type "tuple_iterator", data := .fields #[.ref l, .int 0 0] }).objs.size)))
        { s with heap := (s.heap.push { cls := .type "tuple_iterator", data := .fields #[.ref l, .int 0 0] }).push { cls := .type "enumerate", data := .fields #[.none, .bool false, .ref s.heap.objs.size, rawInt 0, .none, .none] } }) :=
  .of_wp fun prog w A R s h => by
    obtain ⟨hp, g, d, tk, os⟩ := s; obtain ⟨hl, h⟩ := h
    have hsub := sub_enumerate
    have hT : Heap.IsTuple (Shared.heap ⟨hp, g, d, tk, os⟩) l items := ⟨_, hl, rfl, n, rfl⟩
    wp_walk using wpAny_pyIter_tuple hT
    refine wpAny_stack_any fun st => wpAny_pure ?_
    split
    · rename_i c _ _ _ _ _
      cases (c == Value.type "enumerate")
      · wp_walk using wpAny_pyIter_tuple hT
        exact ⟨_, rfl, h⟩
      · wp_walk using wpAny_pyIter_tuple hT
        exact ⟨_, rfl, h⟩
    · wp_walk using wpAny_pyIter_tuple hT
      exact ⟨_, rfl, h⟩
theorem call_enum_tup {prog : Program} {w : World} {A : Around} {E : Value → Shared → Prop} {s : Shared} {l : Addr} {items : Array Value} {Q : Value → Shared → Prop} (hL : s.heap.IsTuple l items)
    (h : ∀ h', IsEnum h' (s.heap.objs.size + 1) s.heap.objs.size 0 .none → h'.IsTupleIter s.heap.objs.size l 0 → h'.objs.size = s.heap.objs.size + 2 →
      (∀ b o, s.heap.get? b = some o → h'.get? b = some o) → Q (.ref (s.heap.objs.size + 1)) { s with heap := h' }) :
    wpAny (model prog w) A (call (.type "enumerate") [.ref l]) Q E s := by
  obtain ⟨⟨c, dct, dt, sl⟩, hl, hc, n, hd⟩ := hL
  replace hc : c = .type "tuple" := hc
  replace hd : dt = .seq items n := hd
  subst hc hd
  refine callType_new F.called_enumerate (by decide) (F.typeCall_enumerate_1 _) (F.newCall_enumerate_1 _) (fun obj => F.args_object_init_2 obj _) F.entry_enumerate_new
    (meets_enum_tup l items n dct sl) ⟨hl, ?_⟩
  have hz : (s.heap.push { cls := .type "tuple_iterator", data := .fields #[.ref l, .int 0 0] }).objs.size = s.heap.objs.size + 1 := Heap.size_push ..
  show _ ∧ _
  rw [hz]
  have he : IsEnum ((s.heap.push { cls := .type "tuple_iterator", data := .fields #[.ref l, .int 0 0] }).push
      { cls := .type "enumerate", data := .fields #[.none, .bool false, .ref s.heap.objs.size, rawInt 0, .none, .none] }) (s.heap.objs.size + 1) s.heap.objs.size 0 .none := by
    have := Heap.get?_push_size (s.heap.push { cls := .type "tuple_iterator", data := .fields #[.ref l, .int 0 0] })
      (o := { cls := .type "enumerate", data := .fields #[.none, .bool false, .ref s.heap.objs.size, rawInt 0, .none, .none] }) rfl
    rw [hz] at this; exact this
  refine ⟨⟨_, he, rfl⟩, h _ he ⟨_, Heap.get?_push_of_some _ (Heap.get?_push_size _ rfl), rfl, rfl⟩ (by rw [Heap.size_push, hz]) fun b o x => Heap.get?_push_of_some _ (Heap.get?_push_of_some _ x)⟩
end PySem
namespace Lau
open PySem PySem.Spec PyProof.Rows L2
/-- the tuple at a, each item in a new pair -/
def IteT (K : PySem.W.Frag) (a : Addr) : It :=
  ⟨fun i H => ∃ (xs : List V) (x : V), SqT K H a xs ∧ xs[i]? = some x, fun i H v H' => ∃ T x, v = .ref T ∧ H T = none ∧ H' = upd H T (.tup [.int (i : Nat), x]) ∧ ∀ xs, SqT K H a xs → xs[i]? = some x, fun i H => ∃ xs : List V, SqT K H a xs ∧ xs.length = i⟩
theorem turn_enumT {P : Program} {w : World} {K : PySem.W.Frag} {elts : List Expr} {kk : Nat} {tpos : Pos} (a e it : Addr) :
    Turn P w K (.Tuple elts kk tpos) (IteT K a) [e, it] e (fun i h => (∃ old, IsEnum h e it ((i : Nat) : Int) old) ∧ h.IsTupleIter it a i ∧ e ≠ it ∧ a ≠ it ∧ a ≠ e) where
  mem := by simp
  obj := fun i h st b hb => by
    obtain ⟨⟨old, he⟩, ⟨o, ho, hc, hd⟩, _⟩ := st
    have e' : b = e ∨ b = it := by simpa using hb
    rcases e' with z | z
    · rw [z]; exact ⟨_, he, fun v q => nomatch q⟩
    · rw [z]; exact ⟨o, ho, fun v q => by rw [hd] at q; cases q⟩
  keep := fun i h h' st k => let ⟨⟨old, he⟩, hi, hne⟩ := st; ⟨⟨old, k e (by simp) _ he⟩, hi.at fun o q => k it (by simp) o q, hne⟩
  item := by
    intro X hP hw hK hc i pins s σ H E I hf st hg
    subst hP hw hK
    obtain ⟨⟨old, he⟩, hit, hne, hai, hae⟩ := st
    obtain ⟨xs, x, hq, hx⟩ := hg
    obtain ⟨its, rv, p, hz⟩ := I.tuple hq
    obtain ⟨u, hu, ru⟩ := rv.get hx
    have hel : e < s.heap.objs.size := Heap.lt_size he
    have hil : it < s.heap.objs.size := by obtain ⟨_, q, _⟩ := hit; exact Heap.lt_size q
    have D := Draws.tuple (prog := X.prog) (w := X.w) (A := X.A.in1) (I.ok.hd hc) it a hai its.toArray
    have hlt : i < its.toArray.size := by
      have := (List.getElem?_eq_some_iff.mp hu).1
      simpa using this
    refine wpAny_pyNext_enum_itemD D he ⟨hit, p⟩ hlt hne (by simp [Ne.symm hae, hne]) fun y h' tk hy ho hit' hT hsz hk => ?_
    have ey : y = u := by
      have : its[i]? = some y := by simpa using hy
      rw [hu] at this
      exact (Option.some.inj this).symm
    subst ey
    refine ⟨_, rfl, wpAny_letOwnedTupleGo_enum (s := { s with heap := h', toks := tk + 1 }) ho fun h'' he' sb => ?_⟩
    have hT2 : h''.get? s.heap.objs.size = some { cls := .type "tuple", data := .seq #[.int i tk, y] } := (sb.2 _ (Nat.ne_of_gt hel)).trans hT
    have new : ObjOk X.prog X.w (upd H s.heap.objs.size (.tup [.int (i : Nat), x])) h'' s.heap.objs.size (.tup [.int (i : Nat), x]) :=
      ⟨by show 2 ≤ sizeLine; decide, [.int i tk, y], .cons ⟨_, rfl⟩ (.cons ru .nil), ⟨_, hT2, rfl, _, rfl⟩⟩
    have I1 : Inv X pins σ (upd H s.heap.objs.size (.tup [.int (i : Nat), x])) { s with heap := h'', toks := tk + 1 } :=
      I.turnedNew (ch := [e, it]) (fun b ob hb q => (sb.2 b (fun z => hb (by simp [z]))).trans (hk b ob (fun z => hb (by simp [z])) (fun z => hb (by simp [z])) q)) hf (Nat.le_refl _) new
    refine ⟨.ref s.heap.objs.size, _, I1, rfl, ⟨_, x, rfl, I.hok.fresh (Nat.le_refl _), rfl, fun ys hy => by rw [I.tuple_inj hy hq]; exact hx⟩, ⟨⟨y, ?_⟩, hit'.1.at fun o q => (sb.2 it (Ne.symm hne)).trans q, hne, hai, hae⟩, fun b hb => ?_⟩
    · have e1 : ((i + 1 : Nat) : Int) = (i : Int) + 1 := by omega
      rw [e1]; exact he'
    · have hb' : b < s.heap.objs.size := by
        have e' : b = e ∨ b = it := by simpa using hb
        rcases e' with z | z
        · rw [z]; exact hel
        · rw [z]; exact hil
      rw [upd_ne (Nat.ne_of_lt hb')]
      exact (hf b hb).1
  done := by
    intro X hP hw hK hc i pins s σ H E I hf st hg
    subst hP hw hK
    obtain ⟨⟨old, he⟩, hit, hne, hai, hae⟩ := st
    obtain ⟨xs, hq, hx⟩ := hg
    obtain ⟨its, rv, p, hz⟩ := I.tuple hq
    obtain ⟨f0, f1, f2, f3, f4, f5⟩ := hf it (by simp)
    have hl := rv.length
    have D := Draws.tuple (prog := X.prog) (w := X.w) (A := X.A.in1) (I.ok.hd hc) it a hai its.toArray
    have en : its.toArray.size = i := by rw [List.size_toArray]; omega
    exact wpAny_pyNext_enum_endD D he ⟨by rw [en]; exact hit, p⟩ fun h' eb => ⟨rfl, I.turned (t' := s.toks) (fun b o hb q => eb b o hb q) f0 f1 f3 f4 f5⟩
  self := fun A i s Q E st h => let ⟨⟨_, he⟩, _⟩ := st; wpAny_pyIter_enum he h
def iEnumT (K : PySem.W.Frag) (ta : TA) : TI := fun σ H R => ta σ H fun vs H1 => ∃ a xs, vs = [.ref a] ∧ SqT K H1 a xs ∧ R (IteT K a) H1
theorem pi_enumT {X : Cx} {e : Expr} {ta : TA} {p pos tpos : Pos} {elts : List Expr} {kk : Nat} (hg : Gl X "enumerate") (hm : X.mg "enumerate" = none) (ha : PA X [e] ta) (hs : starEach [e] X.env = [(false, eval e X.env)] := by rfl) :
    PI X (.Tuple elts kk tpos) (.Call (.Name "enumerate" p) [e] [] pos) (iEnumT X.K ta) := by
  refine ⟨fun pins s σ H R I h => ?_⟩
  refine Call_ (ld_blt I hg hm boot_enumerate (PyProof.Rows.callWith_type1 (thn (ha.run pos pins s σ H _ I h) fun us s1 ⟨vs, H1, I1, r1, q1⟩ => ?_) hs rfl))
  obtain ⟨a, xs, ex, hq, q⟩ := q1
  subst ex
  cases r1 with
  | cons r rr =>
    cases rr
    cases r
    obtain ⟨its, rv, p', hz⟩ := I1.tuple hq
    have hal : a < s1.heap.objs.size := by obtain ⟨_, q, _⟩ := id p'; exact Heap.lt_size q
    refine call_enum_tup (show s1.heap.IsTuple a its.toArray from p') fun h' he hit hsz hk => wpAny_pyIter_enum he ?_
    have I2 : Inv X pins σ H1 { s1 with heap := h' } := I1.kept (t' := s1.toks) hk
    refine ⟨s1.heap.objs.size + 1, [s1.heap.objs.size + 1, s1.heap.objs.size], _, _, H1, rfl, I2, turn_enumT a (s1.heap.objs.size + 1) s1.heap.objs.size, ⟨⟨.none, he⟩, hit, Nat.succ_ne_self _, Nat.ne_of_lt hal, Nat.ne_of_lt (Nat.lt_succ_of_lt hal)⟩, fun b hb => ?_, q⟩
    have e' : b = s1.heap.objs.size + 1 ∨ b = s1.heap.objs.size := by simpa using hb
    have hle : s1.heap.objs.size ≤ b := by
      rcases e' with z | z
      · rw [z]; exact Nat.le_add_right _ _
      · rw [z]; exact Nat.le_refl _
    exact I1.fpOk hle (I1.hok.fresh hle)
theorem walk_enumT {K : PySem.W.Frag} {a : Addr} {xs : List V} : Walk (IteT K a) xs.length (fun H => SqT K H a xs) (YPair (fun i => some (.int (i : Nat))) (fun i => xs[i]?)) := by
  refine ⟨fun i _ hi q => ⟨xs, xs[i], q, by simp [hi]⟩, fun _ q => ⟨xs, q, rfl⟩, fun i H v H' _ q y => ?_⟩
  obtain ⟨T, x, h1, h2, h3, h4⟩ := y
  exact ⟨T, .int (i : Nat), x, h1, h2, h3, rfl, h4 xs q⟩
end Lau
end
section
/-! ## part R8 -/
set_option maxHeartbeats 4000000
/-! zip(xs, ys) walked by one name: the pair that was handed out may still live, or not -/
namespace PySem
open Sem (wp)
abbrev IsZ (h : Heap) (z TI TO : Addr) (f0 : Value) (b : Bool) : Prop :=
  h.get? z = some { cls := .type "zip", dict := none, data := .fields #[f0, .bool b, .bool false, .ref TI, .ref TO], slots := #[] }
section
variable {prog : Program} {w : World} {A : Around} {E : Value → Shared → Prop} {s : Shared}
theorem free_any {z TI TO : Addr} {f0 : Value} {b : Bool} {Q : Bool → Shared → Prop} (hz : IsZ s.heap z TI TO f0 b) (hf : f0 = .none ∨ ∃ T : Addr, f0 = rawInt T ∧ s.heap.get? T = none) (h : Q true s) :
    wpAny (model prog w) A (Builtin.SmallTypes.ownedTupleIsFree (.ref z)) Q E s := by
  unfold Builtin.SmallTypes.ownedTupleIsFree
  rcases hf with rfl | ⟨T, rfl, hT⟩
  · exact wpAny_bind (wpAny_field hz rfl (x := .none) rfl (wpAny_pure h))
  · refine wpAny_bind (wpAny_field hz rfl (x := rawInt T) rfl ?_)
    show wpAny _ _ (loadIfAlive ((T : Int).toNat) >>= _) _ _ _
    rw [Int.toNat_natCast]
    have h' : wpAny (model prog w) A (loadIfAlive T) (fun o s' => o = none ∧ s' = s) E s := fun _ _ _ => ⟨hT, rfl⟩
    refine wpAny_bind (wpAny_mono h' (fun o s' q => ?_) fun _ _ e => e)
    obtain ⟨rfl, rfl⟩ := q
    simp only [Option.isNone_none, if_true]
    exact wpAny_pure h
theorem zipF_item {z TI TO i1 i2 l1 l2 : Addr} {f0 : Value} {fb : Bool} {k1 k2 : Nat} {xs ys : Array Value} {x y a b : Value} {Q : Value → Shared → Prop} (D : ZipApart z TI TO i1 i2 l1 l2)
    (hz : IsZ s.heap z TI TO f0 fb) (hf : f0 = .none ∨ ∃ T : Addr, f0 = rawInt T ∧ s.heap.get? T = none) (hTI : IsPair s.heap TI (.ref i1) (.ref i2)) (hTO : IsPair s.heap TO a b)
    (h1 : s.heap.IsListIter i1 l1 k1) (h2 : s.heap.IsListIter i2 l2 k2) (hl1 : s.heap.IsList l1 xs) (hl2 : s.heap.IsList l2 ys) (hx : xs[k1]? = some x) (hy : ys[k2]? = some y)
    (hQ : ∀ h', IsZ h' z TI TO (rawInt s.heap.objs.size) false → IsPair h' TO x y → h'.IsListIter i1 l1 (k1 + 1) → h'.IsListIter i2 l2 (k2 + 1) → IsPair h' s.heap.objs.size x y →
      (∀ c o, c ≠ z → c ≠ TO → c ≠ i1 → c ≠ i2 → s.heap.get? c = some o → h'.get? c = some o) → Q (.ref s.heap.objs.size) { s with heap := h' }) :
    wpAny (model prog w) A (Builtin.«zip.__next__» ⟨[.ref z], []⟩) (fun fin s' => ∃ v, fin = .done (.ret v) ∧ Q v s') E s := by
  show wpAny _ _ (field (.ref z) 2 >>= _) _ _ _
  refine wpAny_bind (wpAny_field hz rfl (x := .bool false) rfl ?_)
  show wpAny _ _ (field (.ref z) 3 >>= _) _ _ _
  refine wpAny_bind (wpAny_field hz rfl (x := .ref TI) rfl ?_)
  refine wpAny_bind (wpAny_seqItems hTI rfl ?_)
  show wpAny _ _ (Builtin.SmallTypes.ownedTupleIsFree (.ref z) >>= _) _ _ _
  refine wpAny_bind (free_any hz hf ?_)
  simp only [if_true]
  refine wpAny_bind (wpAny_rule ?_)
  refine wpAny_bind (wpAny_field hz rfl (x := .ref TO) rfl ?_)
  refine wpAny_bind (wpAny_setField_rec hz (by simp) fun h₁ hz₁ hs₁ => ?_)
  replace hz₁ : IsZ h₁ z TI TO .ellipsis fb := hz₁
  refine wpAny_bind ?_
  simp only [List.zipIdx_cons, List.zipIdx_nil, List.forIn_cons, List.forIn_nil]
  refine wpAny_bind (wpAny_bind (wpAny_onRaise ?_))
  show wpAny _ _ (Builtin.SmallTypes.nextOf (.ref i1) >>= _) _ _ _
  refine wpAny_bind (wpAny_nextOf_list_item (h1.extBut hs₁.extBut D.i1z) (hl1.extBut hs₁.extBut D.l1z) hx fun h₂ h1₂ hs₂ => wpAny_pure ?_)
  have hTO₂ : IsPair h₂ TO a b := hs₂.extBut _ _ D.TOi1 (hs₁.extBut _ _ D.TOz hTO)
  refine wpAny_bind (wpAny_seqItems hTO₂ rfl ?_)
  refine wpAny_bind (wpAny_updateSeq_pair hTO₂ fun h₃ hTO₃ hs₃ => ?_)
  replace hTO₃ : IsPair h₃ TO x b := hTO₃
  refine wpAny_bind (wpAny_letGo (wpAny_pure ?_))
  refine wpAny_bind (wpAny_bind (wpAny_onRaise ?_))
  show wpAny _ _ (Builtin.SmallTypes.nextOf (.ref i2) >>= _) _ _ _
  refine wpAny_bind (wpAny_nextOf_list_item (((h2.extBut hs₁.extBut D.i2z).extBut hs₂.extBut D.i12.symm).extBut hs₃.extBut D.TOi2.symm)
    (((hl2.extBut hs₁.extBut D.l2z).extBut hs₂.extBut D.l2i1).extBut hs₃.extBut D.l2TO) hy fun h₄ h2₄ hs₄ => wpAny_pure ?_)
  have hTO₄ : IsPair h₄ TO x b := hs₄.extBut _ _ D.TOi2 hTO₃
  refine wpAny_bind (wpAny_seqItems hTO₄ rfl ?_)
  refine wpAny_bind (wpAny_updateSeq_pair hTO₄ fun h₅ hTO₅ hs₅ => ?_)
  replace hTO₅ : IsPair h₅ TO x y := hTO₅
  refine wpAny_bind (wpAny_letGo (wpAny_pure (wpAny_pure ?_)))
  refine wpAny_bind (wpAny_seqItems hTO₅ rfl ?_)
  refine wpAny_bind (wpAny_newTuple ?_)
  have hsz : h₅.objs.size = s.heap.objs.size := by rw [hs₅.1, hs₄.1, hs₃.1, hs₂.1, hs₁.1]
  have hz₅ : IsZ h₅ z TI TO .ellipsis fb := hs₅.extBut _ _ D.TOz.symm (hs₄.extBut _ _ D.i2z.symm (hs₃.extBut _ _ D.TOz.symm (hs₂.extBut _ _ D.i1z.symm hz₁)))
  have hk₅ : ∀ c o, c ≠ z → c ≠ TO → c ≠ i1 → c ≠ i2 → s.heap.get? c = some o → h₅.get? c = some o := fun c o c1 c2 c3 c4 e =>
    hs₅.extBut _ _ c2 (hs₄.extBut _ _ c4 (hs₃.extBut _ _ c2 (hs₂.extBut _ _ c3 (hs₁.extBut _ _ c1 e))))
  have h1₅ : h₅.IsListIter i1 l1 (k1 + 1) := ((h1₂.extBut hs₃.extBut D.TOi1.symm).extBut hs₄.extBut D.i12).extBut hs₅.extBut D.TOi1.symm
  have h2₅ : h₅.IsListIter i2 l2 (k2 + 1) := h2₄.extBut hs₅.extBut D.TOi2.symm
  have hzlt : z < h₅.objs.size := Heap.lt_size hz₅
  show wpAny _ _ (Builtin.SmallTypes.ownedTupleHandOut (.ref z) (.ref h₅.objs.size) >>= _) _ _ _
  refine wpAny_bind ?_
  unfold Builtin.SmallTypes.ownedTupleHandOut
  have hz₆ : IsZ (h₅.push { cls := .type "tuple", data := .seq #[x, y] }) z TI TO .ellipsis fb := Heap.get?_push_of_some _ hz₅
  refine wpAny_bind (wpAny_setField_rec hz₆ (by simp) fun h₇ hz₇ hs₇ => ?_)
  replace hz₇ : IsZ h₇ z TI TO (rawInt h₅.objs.size) fb := hz₇
  refine wpAny_setField_rec hz₇ (by simp) fun h₈ hz₈ hs₈ => ?_
  replace hz₈ : IsZ h₈ z TI TO (rawInt h₅.objs.size) false := hz₈
  have up : ∀ c o, c ≠ z → h₅.get? c = some o → h₈.get? c = some o := fun c o c1 e => hs₈.extBut _ _ c1 (hs₇.extBut _ _ c1 (Heap.get?_push_of_some _ e))
  have hT₈ : IsPair h₈ h₅.objs.size x y := hs₈.extBut _ _ (Nat.ne_of_gt hzlt) (hs₇.extBut _ _ (Nat.ne_of_gt hzlt) (Heap.get?_push_size _ rfl))
  rw [hsz] at hz₈ hT₈
  refine wpAny_pure ⟨_, rfl, ?_⟩
  show Q (.ref h₅.objs.size) _
  rw [hsz]
  exact hQ h₈ hz₈ (up _ _ D.TOz hTO₅) (h1₅.at fun o e => up _ o D.i1z e) (h2₅.at fun o e => up _ o D.i2z e) hT₈ fun c o c1 c2 c3 c4 e => up c o c1 (hk₅ c o c1 c2 c3 c4 e)
theorem zipF_end {z TI TO i1 i2 l1 l2 : Addr} {f0 : Value} {fb : Bool} {k1 : Nat} {xs : Array Value} {a b : Value} {Q : Fin → Shared → Prop} (hh : A.handled = none) (D : ZipApart z TI TO i1 i2 l1 l2)
    (hz : IsZ s.heap z TI TO f0 fb) (hf : f0 = .none ∨ ∃ T : Addr, f0 = rawInt T ∧ s.heap.get? T = none) (hTI : IsPair s.heap TI (.ref i1) (.ref i2)) (hTO : IsPair s.heap TO a b)
    (h1 : s.heap.IsListIter i1 l1 k1) (hl1 : s.heap.IsList l1 xs) (hx : xs[k1]? = none)
    (hE : ∀ h' e, (∀ c o, c ≠ z → c ≠ TO → c ≠ i1 → c ≠ i2 → s.heap.get? c = some o → h'.get? c = some o) → (∃ o, h'.get? e = some o ∧ o.cls = .type "StopIteration") → E (.ref e) { s with heap := h' }) :
    wpAny (model prog w) A (Builtin.«zip.__next__» ⟨[.ref z], []⟩) Q E s := by
  show wpAny _ _ (field (.ref z) 2 >>= _) _ _ _
  refine wpAny_bind (wpAny_field hz rfl (x := .bool false) rfl ?_)
  show wpAny _ _ (field (.ref z) 3 >>= _) _ _ _
  refine wpAny_bind (wpAny_field hz rfl (x := .ref TI) rfl ?_)
  refine wpAny_bind (wpAny_seqItems hTI rfl ?_)
  show wpAny _ _ (Builtin.SmallTypes.ownedTupleIsFree (.ref z) >>= _) _ _ _
  refine wpAny_bind (free_any hz hf ?_)
  simp only [if_true]
  refine wpAny_bind (wpAny_rule ?_)
  refine wpAny_bind (wpAny_field hz rfl (x := .ref TO) rfl ?_)
  refine wpAny_bind (wpAny_setField_rec hz (by simp) fun h₁ hz₁ hs₁ => ?_)
  replace hz₁ : IsZ h₁ z TI TO .ellipsis fb := hz₁
  refine wpAny_bind ?_
  simp only [List.zipIdx_cons, List.zipIdx_nil, List.forIn_cons, List.forIn_nil]
  refine wpAny_bind (wpAny_bind (wpAny_onRaise ?_))
  show wpAny _ _ (Builtin.SmallTypes.nextOf (.ref i1) >>= _) _ _ _
  refine wpAny_bind (wpAny_nextOf_list_end hh (h1.extBut hs₁.extBut D.i1z) (hl1.extBut hs₁.extBut D.l1z) hx fun h₂ e hs₂ he => ?_)
  obtain ⟨oe, hoe, hce⟩ := he
  have hz₂ : IsZ h₂ z TI TO .ellipsis fb := hs₂ _ _ D.i1z.symm hz₁
  have hez : e ≠ z := fun x => by subst x; rw [hz₂] at hoe; cases hoe; simp at hce
  refine wpAny_setField_rec hz₂ (by simp) fun h₃ _ hs₃ => hE h₃ e (fun c o c1 _ c3 _ x => hs₃.extBut _ _ c1 (hs₂ _ _ c3 (hs₁.extBut _ _ c1 x))) ⟨oe, hs₃.extBut _ _ hez hoe, hce⟩
theorem next_zipF {z TI TO i1 i2 l1 l2 : Addr} {f0 : Value} {fb : Bool} {k1 k2 : Nat} {xs ys : Array Value} {x y a b : Value} {Q : Option Value → Shared → Prop} (D : ZipApart z TI TO i1 i2 l1 l2)
    (hz : IsZ s.heap z TI TO f0 fb) (hf : f0 = .none ∨ ∃ T : Addr, f0 = rawInt T) (hTI : IsPair s.heap TI (.ref i1) (.ref i2)) (hTO : IsPair s.heap TO a b)
    (h1 : s.heap.IsListIter i1 l1 k1) (h2 : s.heap.IsListIter i2 l2 k2) (hl1 : s.heap.IsList l1 xs) (hl2 : s.heap.IsList l2 ys) (hx : xs[k1]? = some x) (hy : ys[k2]? = some y)
    (hQ : ∀ h' g0 gb, IsZ h' z TI TO g0 gb → (∃ T : Addr, g0 = rawInt T) → (∃ c d, IsPair h' TO c d) → h'.IsListIter i1 l1 (k1 + 1) → h'.IsListIter i2 l2 (k2 + 1) → IsPair h' s.heap.objs.size x y →
      (∀ c o, c ≠ z → c ≠ TO → c ≠ i1 → c ≠ i2 → s.heap.get? c = some o → h'.get? c = some o) → Q (some (.ref s.heap.objs.size)) { s with heap := h' }) :
    wpAny (model prog w) A (pyNext (.ref z)) Q E s := by
  have hT : s.TypeIs (.ref z) "zip" := ⟨_, hz, rfl⟩
  have dead : (f0 = .none ∨ ∃ T : Addr, f0 = rawInt T ∧ s.heap.get? T = none) → wpAny (model prog w) A (pyNext (.ref z)) Q E s := fun hd => by
    unfold pyNext
    exact wpAny_bind (wpAny_attempt (wpAny_callSpecial?_slot (name := Str.ofString "__next__") hT F.slot_zip_next
      (wpAny_call_entry F.slot_zip_next hT F.entry_zip_next
        (zipF_item D hz hd hTI hTO h1 h2 hl1 hl2 hx hy fun h' a1 a2 a3 a4 a5 a7 => wpAny_pure (hQ h' _ _ a1 ⟨_, rfl⟩ ⟨_, _, a2⟩ a3 a4 a5 a7)) (F.args_zip_next_1 _))))
  rcases hf with rfl | ⟨T, rfl⟩
  · exact dead (.inl rfl)
  · cases e : s.heap.get? T with
    | none => exact dead (.inr ⟨T, rfl, e⟩)
    | some oT =>
      have hTO0 := hTO
      refine wpAny_pyNext_zip_item_held D hz e hTI h1 h2 hl1 hl2 hx hy fun h' a1 a3 a4 a5 a6 a7 => ?_
      exact hQ h' _ _ a1 ⟨_, rfl⟩ ⟨a, b, a7 _ _ D.TOz D.TOi1 D.TOi2 hTO0⟩ a3 a4 a5 fun c o c1 _ c3 c4 q => a7 c o c1 c3 c4 q
theorem end_zipF {z TI TO i1 i2 l1 l2 : Addr} {f0 : Value} {fb : Bool} {k1 k2 : Nat} {xs ys : Array Value} {a b : Value} {Q : Option Value → Shared → Prop} (hh : A.handled = none) (D : ZipApart z TI TO i1 i2 l1 l2)
    (hz : IsZ s.heap z TI TO f0 fb) (hf : f0 = .none ∨ ∃ T : Addr, f0 = rawInt T) (hTI : IsPair s.heap TI (.ref i1) (.ref i2)) (hTO : IsPair s.heap TO a b)
    (h1 : s.heap.IsListIter i1 l1 k1) (h2 : s.heap.IsListIter i2 l2 k2) (hl1 : s.heap.IsList l1 xs) (hl2 : s.heap.IsList l2 ys) (hx : xs[k1]? = none)
    (hQ : ∀ h', (∀ c o, c ≠ z → c ≠ TO → c ≠ i1 → c ≠ i2 → s.heap.get? c = some o → h'.get? c = some o) → Q none { s with heap := h' }) : wpAny (model prog w) A (pyNext (.ref z)) Q E s := by
  have hT : s.TypeIs (.ref z) "zip" := ⟨_, hz, rfl⟩
  have dead : (f0 = .none ∨ ∃ T : Addr, f0 = rawInt T ∧ s.heap.get? T = none) → wpAny (model prog w) A (pyNext (.ref z)) Q E s := fun hd => by
    unfold pyNext
    refine wpAny_bind (wpAny_attempt (wpAny_callSpecial?_slot (name := Str.ofString "__next__") hT F.slot_zip_next
      (wpAny_call_entry F.slot_zip_next hT F.entry_zip_next (zipF_end hh D hz hd hTI hTO h1 hl1 hx fun h' e hk he => ?_) (F.args_zip_next_1 _))))
    obtain ⟨o, ho, hc⟩ := he
    refine wpAny_bind (wpAny_isInstance (T := "StopIteration") (b := true) ⟨o, ho, hc⟩ isSubtype_stop ?_)
    exact wpAny_pure (hQ _ hk)
  rcases hf with rfl | ⟨T, rfl⟩
  · exact dead (.inl rfl)
  · cases e : s.heap.get? T with
    | none => exact dead (.inr ⟨T, rfl, e⟩)
    | some oT => exact wpAny_pyNext_zip_end_held hh D hz e hTI h1 h2 hl1 hl2 (.inl hx) fun h' a7 => hQ h' fun c o c1 _ c3 c4 q => a7 c o c1 c3 c4 q
end
end PySem
namespace Lau
open PySem PySem.Spec PyProof.Rows L2
/-- two lists of one length as they stand, the items in new pairs -/
def ItzN (K : PySem.W.Frag) (a b : Addr) : It :=
  ⟨fun i H => ∃ (xs ys : List V) (x y : V), SqL K H a xs ∧ SqL K H b ys ∧ xs[i]? = some x ∧ ys[i]? = some y,
    fun i H v H' => ∃ T x y, v = .ref T ∧ H T = none ∧ H' = upd H T (.tup [x, y]) ∧ (∀ xs, SqL K H a xs → xs[i]? = some x) ∧ ∀ ys, SqL K H b ys → ys[i]? = some y,
    fun i H => ∃ xs ys : List V, SqL K H a xs ∧ SqL K H b ys ∧ xs.length ≤ i⟩
theorem turn_zipN {P : Program} {w : World} {K : PySem.W.Frag} {nm : Str} {tpos : Pos} {a b z TI TO i1 i2 : Addr} (D : ZipApart z TI TO i1 i2 a b) :
    Turn P w K (.Name nm tpos) (ItzN K a b) [z, TI, TO, i1, i2] z (fun i h => (∃ f0 fb, IsZ h z TI TO f0 fb ∧ (f0 = .none ∨ ∃ T : Addr, f0 = rawInt T)) ∧ IsPair h TI (.ref i1) (.ref i2) ∧ (∃ x y, IsPair h TO x y) ∧ h.IsListIter i1 a i ∧ h.IsListIter i2 b i) where
  mem := by simp
  obj := fun i h st c hc => by
    obtain ⟨⟨f0, fb, hz, _⟩, hTI, ⟨x, y, hTO⟩, ⟨o1, e1, _, d1⟩, ⟨o2, e2, _, d2⟩⟩ := st
    have e' : c = z ∨ c = TI ∨ c = TO ∨ c = i1 ∨ c = i2 := by simpa using hc
    rcases e' with q | q | q | q | q
    · rw [q]; exact ⟨_, hz, fun v q => nomatch q⟩
    · rw [q]; exact ⟨_, hTI, fun v q => nomatch q⟩
    · rw [q]; exact ⟨_, hTO, fun v q => nomatch q⟩
    · rw [q]; exact ⟨o1, e1, fun v q => by rw [d1] at q; cases q⟩
    · rw [q]; exact ⟨o2, e2, fun v q => by rw [d2] at q; cases q⟩
  keep := fun i h h' st k => by
    obtain ⟨⟨f0, fb, hz, hf⟩, hTI, ⟨x, y, hTO⟩, h1, h2⟩ := st
    exact ⟨⟨f0, fb, k z (by simp) _ hz, hf⟩, k TI (by simp) _ hTI, ⟨x, y, k TO (by simp) _ hTO⟩, h1.at fun o q => k i1 (by simp) o q, h2.at fun o q => k i2 (by simp) o q⟩
  item := by
    intro X hP hw hK hc i pins s σ H E I hfp st hg
    subst hP hw hK
    obtain ⟨⟨f0, fb, hz, hf⟩, hTI, ⟨x0, y0, hTO⟩, h1, h2⟩ := st
    obtain ⟨xs, ys, x, y, hqx, hqy, hx, hy⟩ := hg
    obtain ⟨its, rv, p, _⟩ := I.list hqx
    obtain ⟨its2, rv2, p2, _⟩ := I.list hqy
    obtain ⟨u, hu, ru⟩ := rv.get hx
    obtain ⟨u2, hu2, ru2⟩ := rv2.get hy
    have hzl : z < s.heap.objs.size := Heap.lt_size hz
    refine next_zipF D hz hf hTI hTO h1 h2 p.isList p2.isList (x := u) (y := u2) (by simpa using hu) (by simpa using hu2) fun h' g0 gb z' gT TO' h1' h2' hT hk => ?_
    refine ⟨_, rfl, ?_⟩
    have new : ObjOk X.prog X.w (upd H s.heap.objs.size (.tup [x, y])) h' s.heap.objs.size (.tup [x, y]) :=
      ⟨by show 2 ≤ sizeLine; decide, [u, u2], .cons ru (.cons ru2 .nil), ⟨_, hT, rfl, _, rfl⟩⟩
    have I1 : Inv X pins σ (upd H s.heap.objs.size (.tup [x, y])) { s with heap := h' } :=
      I.turnedNew (t' := s.toks) (ch := [z, TI, TO, i1, i2]) (fun c o hb q => hk c o (fun q' => hb (by simp [q'])) (fun q' => hb (by simp [q'])) (fun q' => hb (by simp [q'])) (fun q' => hb (by simp [q'])) q) hfp (Nat.le_refl _) new
    show wpAny (model X.prog X.w) X.A (pure ()) _ _ _
    refine wpAny_pure ⟨.ref s.heap.objs.size, _, I1, rfl, ⟨_, x, y, rfl, I.hok.fresh (Nat.le_refl _), rfl, fun l hl => by rw [I.list_inj hl hqx]; exact hx, fun l hl => by rw [I.list_inj hl hqy]; exact hy⟩, ⟨⟨g0, gb, z', .inr gT⟩, ?_, TO', h1', h2'⟩, fun c hcm => ?_⟩
    · exact hk _ _ D.TIz D.TITO D.TIi1 D.TIi2 hTI
    · have hlt : c < s.heap.objs.size := by
        have e' : c = z ∨ c = TI ∨ c = TO ∨ c = i1 ∨ c = i2 := by simpa using hcm
        rcases e' with q | q | q | q | q
        · rw [q]; exact hzl
        · rw [q]; exact Heap.lt_size hTI
        · rw [q]; exact Heap.lt_size hTO
        · rw [q]; obtain ⟨_, e1, _⟩ := h1; exact Heap.lt_size e1
        · rw [q]; obtain ⟨_, e2, _⟩ := h2; exact Heap.lt_size e2
      rw [upd_ne (Nat.ne_of_lt hlt)]
      exact (hfp c hcm).1
  done := by
    intro X hP hw hK hc i pins s σ H E I hfp st hg
    subst hP hw hK
    obtain ⟨⟨f0, fb, hz, hf⟩, hTI, ⟨x0, y0, hTO⟩, h1, h2⟩ := st
    obtain ⟨xs, ys, hqx, hqy, hend⟩ := hg
    obtain ⟨its, rv, p, _⟩ := I.list hqx
    obtain ⟨its2, rv2, p2, _⟩ := I.list hqy
    have l1 := rv.length
    exact end_zipF (I.ok.hd hc) D hz hf hTI hTO h1 h2 p.isList p2.isList (by simp; omega) fun h' hk => ⟨rfl, I.turnedL (t' := s.toks) (ch := [z, TI, TO, i1, i2]) (fun c o hb q =>
      hk c o (fun q' => hb (by simp [q'])) (fun q' => hb (by simp [q'])) (fun q' => hb (by simp [q'])) (fun q' => hb (by simp [q'])) q) hfp⟩
  self := fun A i s Q E st h => by
    obtain ⟨⟨f0, fb, hz, _⟩, _⟩ := st
    have hT : s.TypeIs (.ref z) "zip" := ⟨_, hz, rfl⟩
    refine wpAny_pyIter_slot hT F.slot_zip_iter (wpAny_call_entry F.slot_zip_iter hT F.entry_zip_iter ?_ (F.args_zip_iter_1 _))
    show wpAny _ _ (ret (.ref z)) _ _ s
    exact wpAny_pure ⟨_, rfl, "zip", _, hT, F.slot_zip_next.lookup, h⟩
def iZipN (K : PySem.W.Frag) (ta : TA) : TI := fun σ H R => ta σ H fun vs H1 => ∃ a b xs ys, vs = [.ref a, .ref b] ∧ SqL K H1 a xs ∧ SqL K H1 b ys ∧ R (ItzN K a b) H1
theorem pi_zipN {X : Cx} {e e2 : Expr} {ta : TA} {p pos tpos : Pos} {nm : Str} (hg : Gl X "zip") (hm : X.mg "zip" = none) (ha : PA X [e, e2] ta)
    (hs : starEach [e, e2] X.env = (false, eval e X.env) :: starEach [e2] X.env := by rfl) (hpl : (backTo pos (starEach [e2] X.env)).any (·.1) = false := by rfl) :
    PI X (.Name nm tpos) (.Call (.Name "zip" p) [e, e2] [] pos) (iZipN X.K ta) := by
  refine ⟨fun pins s σ H R I h => ?_⟩
  refine Call_ (ld_blt I hg hm PyProof.Rows.boot_zip (PyProof.Rows.callWith_type1 (thn (ha.run pos pins s σ H _ I h) fun us s1 ⟨vs, H1, I1, r1, q1⟩ => ?_) hs hpl))
  obtain ⟨a, b, xs, ys, ex, hqx, hqy, q⟩ := q1
  subst ex
  obtain ⟨u1, u2, rfl, rx, ry⟩ := vals2 r1
  cases rx
  cases ry
  obtain ⟨its, rv, p1, _⟩ := I1.list hqx
  obtain ⟨its2, rv2, p2, _⟩ := I1.list hqy
  refine call_zip_2 p1.isList p2.isList fun h' hz hTI hTO h1 h2 hsz hk => wpAny_pyIter_zip hz ?_
  have I2 : Inv X pins σ H1 { s1 with heap := h' } := I1.kept (t' := s1.toks) hk
  refine ⟨s1.heap.objs.size + 4, [s1.heap.objs.size + 4, s1.heap.objs.size + 2, s1.heap.objs.size + 3, s1.heap.objs.size, s1.heap.objs.size + 1], _, _, H1, rfl, I2, turn_zipN (PySem.W.ktu_apart s1.heap.objs.size a b p1.lt p2.lt), ⟨⟨.none, false, hz, .inl rfl⟩, hTI, ⟨_, _, hTO⟩, h1, h2⟩, fun c hcm => ?_, q⟩
  have e' : c = s1.heap.objs.size + 4 ∨ c = s1.heap.objs.size + 2 ∨ c = s1.heap.objs.size + 3 ∨ c = s1.heap.objs.size ∨ c = s1.heap.objs.size + 1 := by simpa using hcm
  have hle : s1.heap.objs.size ≤ c := by
    rcases e' with z | z | z | z | z
    · rw [z]; exact Nat.le_add_right _ _
    · rw [z]; exact Nat.le_add_right _ _
    · rw [z]; exact Nat.le_add_right _ _
    · rw [z]; exact Nat.le_refl _
    · rw [z]; exact Nat.le_add_right _ _
  exact I1.fpOk hle (I1.hok.fresh hle)
theorem walk_zipN {K : PySem.W.Frag} {a b : Addr} {xs ys : List V} (hl : xs.length = ys.length) : Walk (ItzN K a b) xs.length (fun H => SqL K H a xs ∧ SqL K H b ys) (YPair (fun i => xs[i]?) (fun i => ys[i]?)) := by
  refine ⟨fun i _ hi q => ?_, fun _ q => ⟨xs, ys, q.1, q.2, Nat.le_refl _⟩, fun i H v H' _ q y => ?_⟩
  · have h2 : i < ys.length := by omega
    exact ⟨xs, ys, xs[i], ys[i], q.1, q.2, by simp [hi], by simp [h2]⟩
  · obtain ⟨T, x, z, h1, h2, h3, h4, h5⟩ := y
    exact ⟨T, x, z, h1, h2, h3, h4 xs q.1, h5 ys q.2⟩
end Lau
end
section
/-! ## part R9 -/
set_option maxHeartbeats 4000000
namespace Lau
open PySem PySem.Spec PyProof.Rows L2
/-! tuple * int, k from 0 on -/
theorem tuple_mul0 (l : Addr) (items : Array Value) (n : Nat) (dd : Option Addr) (sl : Array (Option Value)) (u : Tok) (hn : items.isEmpty = false) :
    Meets (Builtin.«tuple.__mul__» ⟨[.ref l, .int 0 u], []⟩) (fun _ R s => s.heap.get? l = some { cls := .type "tuple", dict := dd, data := .seq items n, slots := sl } ∧
      R (.ok (.ret (Value.ref s.heap.objs.size))) { s with heap := s.heap.push { cls := Value.type "tuple", data := Data.seq #[] }, toks := s.toks }) :=
  .of_wp fun prog w A R s h => by
    obtain ⟨hp, g, d, tk, os⟩ := s
    obtain ⟨hl, h⟩ := h
    have f1 := AutoSeq1.idx_int
    have c1 : (items.isEmpty || (0 : Int) == 1) = false := by rw [hn]; rfl
    wp_walk using wpAny_loadPart' hl
    repeat (first
      | (refine wpAny_ite_false (by decide) ?_; wp_walk using wpAny_loadPart' hl)
      | (refine wpAny_ite_false (decide_eq_false (by rw [c1]; exact Bool.false_ne_true)) ?_; wp_walk using wpAny_loadPart' hl)
      | (refine wpAny_ite_true (by simp) ?_; wp_walk using wpAny_loadPart' hl))
    exact ⟨_, rfl, h⟩
theorem tuple_mul1 (l : Addr) (items : Array Value) (n : Nat) (dd : Option Addr) (sl : Array (Option Value)) (u : Tok) :
    Meets (Builtin.«tuple.__mul__» ⟨[.ref l, .int 1 u], []⟩) (fun _ R s => s.heap.get? l = some { cls := .type "tuple", dict := dd, data := .seq items n, slots := sl } ∧ R (.ok (.ret (Value.ref l))) s) :=
  .of_wp fun prog w A R s h => by
    obtain ⟨hp, g, d, tk, os⟩ := s
    obtain ⟨hl, h⟩ := h
    have f1 := AutoSeq1.idx_int
    have c1 : (items.isEmpty || (1 : Int) == 1) = true := by simp
    wp_walk using wpAny_loadPart' hl
    repeat (first
      | (refine wpAny_ite_false (by decide) ?_; wp_walk using wpAny_loadPart' hl)
      | (refine wpAny_ite_true (by simp) ?_; wp_walk using wpAny_loadPart' hl))
    exact ⟨_, rfl, h⟩
/-- tuple * k, 0 ≤ k -/
def rRepTA (K : PySem.W.Frag) : R2 := fun x y H Q => ∃ l k xs, x = .ref l ∧ y = .int k ∧ SqT K H l xs ∧ xs ≠ [] ∧ 0 ≤ k ∧ k ≤ 1000 ∧ xs.length ≤ 1000 ∧ ∀ p H', Ext H H' → SqT K H' p (List.replicate k.toNat xs).flatten → Q (.ref p) H'
section
variable {X : Cx}
theorem op_repTA : OpR X (binaryOp .Mult) (rRepTA X.K) := by
  intro pins s σ H x y v u Q I rx ry h
  obtain ⟨l, k, xs, rfl, rfl, hT, hne, h1, h2, hz, q⟩ := h
  by_cases hk : 2 ≤ k
  · exact op_repT _ _ _ _ _ _ _ _ _ I rx ry ⟨l, k, xs, rfl, rfl, hT, hne, hk, h2, hz, fun p hp => q p _ (Ext.upd hp) (SqT.of upd_same)⟩
  · cases rx
    obtain ⟨t, rfl⟩ := ry
    obtain ⟨its, r, ⟨⟨cls, dd, data, sl⟩, ho, hc, n, hd⟩, hs⟩ := I.tuple hT
    simp only at hc hd
    subst hc hd
    have hle : its.length = xs.length := r.length.symm
    have hi : its.toArray.isEmpty = false := by
      cases its with
      | nil => exact absurd (List.eq_nil_of_length_eq_zero (by simpa using hle.symm)) hne
      | cons a b => rfl
    rcases (show k = 0 ∨ k = 1 by omega) with rfl | rfl
    · refine wpAny_binaryOp_repeat_ref (T := "tuple") (U := "int") (by decide) ⟨_, ho, rfl⟩ (fun s' => typeIs_int s' 0 t) noFill_tuple_mul F.fills_int_mul F.slot_int_rmul repeat_tuple F.slot_int_index.lookup
        (call_meets F.slot_int_rmul (typeIs_int s 0 t) F.entry_int_rmul (F.args_int_rmul_2 _ _) (int_rmul_tuple 0 t l its.toArray n dd sl)
          ⟨ho, rfl, ⟨_, ho, rfl⟩, call_meets F.slot_tuple_mul ⟨_, ho, rfl⟩ F.entry_tuple_mul (F.args_tuple_mul_2 _ _) (tuple_mul0 l its.toArray n dd sl t hi) ⟨ho, ?_⟩⟩)
      refine ⟨.ref s.heap.objs.size, _, I.laid (t' := s.toks) (o := .tup []) (fun b ob q => Heap.get?_push_of_some _ q) (Nat.le_refl _) ⟨Nat.zero_le _, _, .nil, IsTup.new _ _⟩, rfl, q _ _ (Ext.upd (I.hok.fresh (Nat.le_refl _))) (SqT.of upd_same)⟩
    · refine wpAny_binaryOp_repeat_ref (T := "tuple") (U := "int") (by decide) ⟨_, ho, rfl⟩ (fun s' => typeIs_int s' 1 t) noFill_tuple_mul F.fills_int_mul F.slot_int_rmul repeat_tuple F.slot_int_index.lookup
        (call_meets F.slot_int_rmul (typeIs_int s 1 t) F.entry_int_rmul (F.args_int_rmul_2 _ _) (int_rmul_tuple 1 t l its.toArray n dd sl)
          ⟨ho, rfl, ⟨_, ho, rfl⟩, call_meets F.slot_tuple_mul ⟨_, ho, rfl⟩ F.entry_tuple_mul (F.args_tuple_mul_2 _ _) (tuple_mul1 l its.toArray n dd sl t) ⟨ho, ?_⟩⟩)
      refine ⟨.ref l, _, I, rfl, q _ _ Ext.rfl' ?_⟩
      have e : (List.replicate (1 : Int).toNat xs).flatten = xs := by simp
      rw [e]
      exact hT
end
/-! dicts of ints: the same, not the same -/
/-- a dict of the tracked heap with whole numbers only -/
def eKV (e : List (Int × Int)) : List (Key × V) := e.map fun p => (.inl p.1, .int p.2)
def lkp (e : List (Int × Int)) (k : Int) : Option Int := (e.find? fun p => decide (p.1 = k)).map (·.2)
def dEq (e f : List (Int × Int)) : Bool := (e.length == f.length) && e.all fun p => lkp f p.1 == some p.2
theorem val_eKV (e : List (Int × Int)) (k : Int) : valV (eKV e) (.inl k) = (lkp e k).map V.int := by
  induction e with
  | nil => rfl
  | cons p r ih =>
    show valV ((.inl p.1, V.int p.2) :: eKV r) (.inl k) = _
    by_cases h : p.1 = k
    · rw [valV_pos (by rw [h])]
      simp [lkp, h]
    · rw [valV_neg (fun z => h (Sum.inl.inj z)), ih]
      simp [lkp, h]
theorem hitsD {A : Around} {s : Shared} {f : List (Int × Int)} {vb : List (Key × Value)} (rb : KV (eKV f) vb) : ∀ {e : List (Int × Int)} {va : List (Key × Value)}, KV (eKV e) va → PySem.W.KeqHits A s vb va (e.all fun p => lkp f p.1 == some p.2)
  | [], [], _ => .nil
  | p :: e, q :: va, h => by
    cases h with
    | cons h1 t =>
      obtain ⟨a1, a2⟩ := h1
      obtain ⟨k, v⟩ := q
      have a1' : (Sum.inl p.1 : Key) = k := a1
      subst a1'
      obtain ⟨t0, rfl⟩ := (show ∃ t, v = Value.int p.2 t from a2)
      have ih := hitsD (A := A) (s := s) rb (e := e) (va := va) t
      have rr := rb.val (.inl p.1)
      rw [val_eKV] at rr
      cases hl : lkp f p.1 with
      | none =>
        rw [hl] at rr
        have e1 : valueAt vb (Sum.inl p.1 : Key) = none := by
          have := rr.isSome_eq
          simpa using this.symm
        have : (List.all (p :: e) fun p => lkp f p.1 == some p.2) = false := by simp [hl]
        rw [this]
        exact .miss e1
      | some y =>
        rw [hl] at rr
        obtain ⟨z, hz, rz⟩ := rr.some_of
        obtain ⟨t1, rfl⟩ := (show ∃ t, z = Value.int y t from rz)
        have : (List.all (p :: e) fun p => lkp f p.1 == some p.2) = ((p.2 == y) && e.all fun p => lkp f p.1 == some p.2) := by
          simp only [List.all_cons, hl]
          congr 1
          by_cases hpy : p.2 = y
          · simp [hpy]
          · have h2 : ¬ y = p.2 := fun z => hpy z.symm
            have b1 : (y == p.2) = false := beq_eq_false_iff_ne.mpr h2
            have b2 : (p.2 == y) = false := beq_eq_false_iff_ne.mpr hpy
            simp [b1, b2]
        rw [this]
        exact .hit hz (SeqAt.EqAt.int_int p.2 t0 y t1) ih
def rDEq (g : Bool → Bool) : R2 := fun x y H Q => ∃ a b e f, x = .ref a ∧ y = .ref b ∧ H a = some (.dK (eKV e)) ∧ H b = some (.dK (eKV f)) ∧ Q (.bl (g (dEq e f))) H
section
variable {X : Cx}
theorem op_eqDD (hu : X.A.units < cLine) : OpR X (compareOp .Eq) (rDEq id) := by
  intro pins s σ H x y v u Q I rx ry h
  obtain ⟨a, b, e, f, rfl, rfl, ea, eb, q⟩ := h
  obtain rfl : v = Value.ref a := rx
  obtain rfl : u = Value.ref b := ry
  obtain ⟨_, ya, va, ra, da⟩ := (show ObjOk X.prog X.w H s.heap a (.dK _) from I.hok a _ ea)
  obtain ⟨_, yb, vb, rb, db⟩ := (show ObjOk X.prog X.w H s.heap b (.dK _) from I.hok b _ eb)
  have l1 := KV.length ra
  have l2 := KV.length rb
  rw [eKV, List.length_map] at l1 l2
  exact PySem.W.keq_eq (knd := mixKind X.prog X.w) ya yb da db hu (fun _ => hitsD rb ra) (fin_bl I q (by simp [dEq, l1, l2]))
theorem op_neDD (hu : X.A.units < cLine) : OpR X (compareOp .NotEq) (rDEq Bool.not) := by
  intro pins s σ H x y v u Q I rx ry h
  obtain ⟨a, b, e, f, rfl, rfl, ea, eb, q⟩ := h
  obtain rfl : v = Value.ref a := rx
  obtain rfl : u = Value.ref b := ry
  obtain ⟨_, ya, va, ra, da⟩ := (show ObjOk X.prog X.w H s.heap a (.dK _) from I.hok a _ ea)
  obtain ⟨_, yb, vb, rb, db⟩ := (show ObjOk X.prog X.w H s.heap b (.dK _) from I.hok b _ eb)
  have l1 := KV.length ra
  have l2 := KV.length rb
  rw [eKV, List.length_map] at l1 l2
  exact PySem.W.keq_ne (knd := mixKind X.prog X.w) ya yb da db hu (fun _ => hitsD rb ra) (fin_bl I q (by simp [dEq, l1, l2]))
end
/-! list(d.values()) -/
def tListVals (te : TE) : TE := fun σ H Q => te σ H fun x H1 => ∃ d kvs, x = .ref d ∧ H1 d = some (.dK kvs) ∧ ∀ q, H1 q = none → Q (.ref q) (upd H1 q (.lst (kvs.map (·.2))))
section
variable {X : Cx} {e : Expr} {te : TE} {p apos cpos pos : Pos}
theorem vals_snd {kvs : List (Key × V)} {vs : List (Key × Value)} (r : KV kvs vs) : Vals (kvs.map (·.2)) (vs.map (·.2)) := by
  unfold KV at r
  induction r with
  | nil => exact .nil
  | cons h _ ih => exact .cons h.2 ih
theorem pe_listVals (hc : X.calm = true) (he : PE X e te) (hg : Gl X "list") (hm : X.mg "list" = none) (hv : bootBuiltins "list" = some (.type "list")) (hbase : attributeBase e "values" X.env (eval e X.env) = eval e X.env := by rfl) (hline : (apos.endLine == cpos.line) = true := by rfl)
    (hs : starEach [.Call (.Attribute e "values" apos) [] [] cpos] X.env = (false, eval (.Call (.Attribute e "values" apos) [] [] cpos) X.env) :: starEach [] X.env := by rfl) :
    PE X (.Call (.Name "list" p) [.Call (.Attribute e "values" apos) [] [] cpos] [] pos) (tListVals te) := by
  refine ⟨fun pins s σ H Q I hq => ?_⟩
  refine wpAny_Call_Name_kw (ld_blt I hg hm hv ?_)
  refine PyProof.Rows.callWith_type1 ?_ hs rfl
  rw [hs]
  show wpAny _ _ (spliced ((false, eval (.Call (.Attribute e "values" apos) [] [] cpos) X.env) :: backTo pos (starEach [] X.env))) _ _ s
  refine Calls.spliced_cons ?_
  refine wpAny_Call_method (T := "dict") (id := "dict.values") hbase rfl hline F.plainAttrs_dict F.slot_dict_values F.type_dict_values (thn (he.run pins s σ H _ I hq) fun u s1 ⟨x, H1, I1, rx, d, kvs, ex, hd, q⟩ => ?_)
  subst ex
  obtain rfl : u = Value.ref d := rx
  obtain ⟨hz, hs0, vs, kv, hdo⟩ := I1.hok d _ hd
  obtain ⟨ep, hat⟩ := hdo.dictAt
  have lk : kvs.length = vs.length := Paired.length kv
  have I2 : Inv X pins σ H1 { s1 with heap := s1.heap.push { cls := .type "dict_values", data := .fields #[.ref d] } } := I1.kept (t' := s1.toks) fun b ob q => Heap.get?_push_of_some _ q
  refine ⟨hdo.typeIs, hdo.mapOf.noDict, ?_⟩
  show wpAny _ _ (callWith cpos (.builtin "dict.values") [.ref d] [] []) _ X.xe s1
  refine method_meetsIn F.slot_dict_values F.entry_dict_values rfl (PySem.evalArgs_none ⟨rfl, hdo.typeIs, F.args_dict_values_1 _, _, meets_dict_values (mixKind X.prog X.w) d hs0, ⟨vs, hdo⟩, ?_⟩)
  refine Calls.spliced_nil ?_
  refine PySem.W.kdl_call (PySem.W.kdl_values (r := s1.heap.objs.size) (d := d) (knd := mixKind X.prog X.w) (kvs := vs) (ep := ep)) (I1.ok.hd hc) ⟨⟨_, Heap.get?_push_size _ rfl, rfl, rfl⟩, hat.push _⟩ (by omega) fun h' tk acc c hk hS hacc => ?_
  have ev : acc.toList = vs.map (·.2) := PySem.W.kdl_vals_eq acc.toList (by simpa using hacc.1) fun j v h => hacc.2 j v (by rw [← Array.getElem?_toList]; exact h)
  refine ⟨.ref _, upd H1 _ (.lst (kvs.map (·.2))), I2.laid (t' := tk) hk (Nat.le_refl _) (show ObjOk X.prog X.w _ _ _ (.lst (kvs.map (·.2))) from ⟨?_, acc.toList, c, ?_, ?_⟩), rfl, q _ (I2.hok.fresh (Nat.le_refl _))⟩
  · rw [List.length_map]; omega
  · rw [ev]; exact vals_snd kv
  · rw [Array.toArray_toList]; exact hS
end
end Lau
end
section
/-! ## part T -/
set_option maxHeartbeats 4000000
namespace Lau
open PySem PySem.Spec PyProof.Rows L2
/-! what the top has written, by names -/
structure Txt (K : PySem.W.Frag) (mg : Str → Option Value) : Prop where
  sy : SaysL fnA K
  ex : ∃ h : Heap, K.In h ∧ h.Ns mainGlobals mg
section
variable {K : PySem.W.Frag} {mg : Str → Option Value}
theorem Txt.ok (T : Txt K mg) : exB K = true ∧ ∀ d ∈ fnA, d.ok K = true := by
  have c := (He.ba (show (exB K && fnA.all fun d => d.ok K) = true from congrArg (fun z : He.AlD => z.1) T.sy))
  exact ⟨c.1, List.all_eq_true.mp c.2⟩
theorem Txt.def_ (T : Txt K mg) (i : Nat) {d : He5.DefA} (h : fnA[i]? = some d) : ∃ fd, FunD K d.name d.qual d.params d.body d.scope (d.dvs K) (d.kws K) (d.at_ K) fd := by
  have e : fnA.map (fun d => He5.fnA K (d.at_ K)) = fnA.map He5.DefA.val := congrArg (fun z : He.AlD => z.2) T.sy
  have e2 : (fnA.map fun d => He5.fnA K (d.at_ K))[i]? = (fnA.map He5.DefA.val)[i]? := by rw [e]
  rw [List.getElem?_map, List.getElem?_map, h] at e2
  exact He5.DefA.funD (Option.some.inj e2) (T.ok.2 d (List.mem_of_getElem? h))
theorem Txt.parts (T : Txt K mg) : ((∀ x ∈ fnNames, gloB K x = true) ∧ ∀ x ∈ freeNames, freeB K x = true) ∧ gloB K "Laurent" = true ∧ intB K "MOST_POWER" 64 = true ∧ intB K "MOST_LAURENT" 400 = true ∧ (∀ m ∈ metNames, metB K m = true) ∧ (∀ m ∈ propNames, propB K m = true) ∧
    clsFB K (LC K) = true ∧ readB K = true ∧ mkrB K = true ∧ PySem.W.findIn K (.ref (LC K)) "_raw" = some none := by
  have h := T.ok.1
  unfold exB at h
  obtain ⟨h1, h⟩ := He.ba h
  obtain ⟨h1a, h1b⟩ := He.ba h1
  obtain ⟨h2, h⟩ := He.ba h
  obtain ⟨h3, h⟩ := He.ba h
  obtain ⟨h4, h⟩ := He.ba h
  obtain ⟨h5, h⟩ := He.ba h
  obtain ⟨h6, h⟩ := He.ba h
  obtain ⟨h7, h⟩ := He.ba h
  obtain ⟨h8, h⟩ := He.ba h
  obtain ⟨h9, h10⟩ := He.ba h
  exact ⟨⟨List.all_eq_true.mp h1a, List.all_eq_true.mp h1b⟩, h2, h3, h4, List.all_eq_true.mp h5, List.all_eq_true.mp h6, h7, h8, h9, He.eqO_ok h10⟩
theorem Txt.glo (T : Txt K mg) {x : Str} (h : gloB K x = true) : mg x = some (.ref (He.ga K x)) := by
  obtain ⟨hh, X, G⟩ := T.ex
  exact PySem.W.mg_of X G (He.eqO_ok h)
theorem Txt.free (T : Txt K mg) (n : Nat) {x : Str} (h : freeNames[n]? = some x := by rfl) : mg x = none := by
  obtain ⟨hh, X, G⟩ := T.ex
  exact PySem.W.mg_none_of X G (He.eqO_ok (T.parts.1.2 x (List.mem_of_getElem? h)))
theorem Txt.int_ (T : Txt K mg) {x : Str} {i : Int} (h : intB K x i = true) : ∃ t, mg x = some (.int i t) := by
  obtain ⟨hh, X, G⟩ := T.ex
  unfold intB at h
  split at h
  · rename_i j t e
    have q : j = i := of_decide_eq_true h
    subst q
    exact ⟨t, PySem.W.mg_of X G e⟩
  · cases h
theorem Txt.fn (T : Txt K mg) (n : Nat) {x : Str} {i : Nat} (h1 : fnA[n]? = some (dF x i)) (h2 : fnNames[n]? = some x) : DefF K mg x i := by
  obtain ⟨fd, F⟩ := T.def_ n h1
  exact ⟨_, fd, F, T.glo (T.parts.1.1 x (List.mem_of_getElem? h2))⟩
theorem Txt.met (T : Txt K mg) (n : Nat) {m : Str} (h2 : metNames[n]? = some m) : Meth K (LC K) m (He.ma K (LC K) m) := metB_ok (T.parts.2.2.2.2.1 m (List.mem_of_getElem? h2))
theorem Txt.prop (T : Txt K mg) (n : Nat) {m : Str} (h2 : propNames[n]? = some m) : PropOf K (LC K) m (He.ma K (LC K) m) (gtr K m) := propB_ok (T.parts.2.2.2.2.2.1 m (List.mem_of_getElem? h2))
theorem Txt.cls (T : Txt K mg) : ClsF K (LC K) := clsFB_ok T.parts.2.2.2.2.2.2.1
theorem Txt.gC (T : Txt K mg) : mg "Laurent" = some (.ref (LC K)) := T.glo T.parts.2.1
theorem Txt.p64 (T : Txt K mg) : ∃ t, mg "MOST_POWER" = some (.int 64 t) := T.int_ T.parts.2.2.1
theorem Txt.l400 (T : Txt K mg) : ∃ t, mg "MOST_LAURENT" = some (.int 400 t) := T.int_ T.parts.2.2.2.1
theorem Txt.nR (T : Txt K mg) : NoAttr K (LC K) "_raw" := T.parts.2.2.2.2.2.2.2.2.2
theorem Txt.mkC (T : Txt K mg) : Mk K (LC K) (He.ma K (LC K) "__init__") := by
  obtain ⟨h1, h2⟩ := He.ba T.parts.2.2.2.2.2.2.2.2.1
  have m := T.met 0 (m := "__init__") rfl
  exact ⟨h1, m.at_, m.fn, h2⟩
theorem Txt.own (T : Txt K mg) : OwnF K (LC K) := ⟨T.cls.sf, T.cls.sInt, T.cls.uInt, T.cls.sStr, T.cls.hm⟩
theorem Txt.stat (T : Txt K mg) : StatF K (LC K) "read" (He.ma K (LC K) "read") (He5.wf K (LC K) "staticmethod" "read") := by
  obtain ⟨h1, h⟩ := He.ba T.parts.2.2.2.2.2.2.2.1
  obtain ⟨h2, h3⟩ := He.ba h
  obtain ⟨w1, w2⟩ := He5.wrapB_ok h1
  have rd := h2
  simp only [PySem.W.readsIn, Bool.and_eq_true, beq_iff_eq] at h2
  obtain ⟨⟨⟨⟨a, b⟩, c'⟩, d⟩, f⟩ := h2
  refine ⟨w1, w2, ⟨rd, ?_⟩, b, h3⟩
  unfold PySem.W.specialIn
  rw [b, Option.bind_some]
  exact c'
theorem Txt.sp (T : Txt K mg) (n : Nat) {m : Str} (h2 : metNames[n]? = some m) : SpF K (LC K) m (He.ma K (LC K) m) := ⟨(T.met n h2).at_, (T.met n h2).fn⟩
end
end Lau
end
section
/-! ## part M1 -/
namespace Lau
/-! plain mathematics: entries, rows, sums, products -/
abbrev Ent := List (Int × Int)
abbrev Raw := Int × List Int
def ev : Ent → Int → Int
  | [], _ => 0
  | p :: e, k => (if p.1 = k then p.2 else 0) + ev e k
def cv : Ent → (Int → Int) → Int → Int
  | [], _, _ => 0
  | p :: e, g, k => p.2 * g (k - p.1) + cv e g k
def rowE : Int → List Int → Ent
  | _, [] => []
  | lo, c :: cs => (lo, c) :: rowE (lo + 1) cs
def rat (r : Raw) (k : Int) : Int := if r.1 ≤ k then r.2.getD (k - r.1).toNat 0 else 0
def Nrm (r : Raw) : Prop := (r.2 = [] ∧ r.1 = 0) ∨ (r.2 ≠ [] ∧ rat r r.1 ≠ 0 ∧ rat r (r.1 + r.2.length - 1) ≠ 0)

theorem ev_append (a b : Ent) (k : Int) : ev (a ++ b) k = ev a k + ev b k := by
  induction a with
  | nil => simp [ev]
  | cons p a ih => simp only [List.cons_append, ev, ih]; omega
theorem cv_append (a b : Ent) (g : Int → Int) (k : Int) : cv (a ++ b) g k = cv a g k + cv b g k := by
  induction a with
  | nil => simp [cv]
  | cons p a ih => simp only [List.cons_append, cv, ih]; omega
theorem rowE_append (lo : Int) (a b : List Int) : rowE lo (a ++ b) = rowE lo a ++ rowE (lo + a.length) b := by
  induction a generalizing lo with
  | nil => simp [rowE]
  | cons c a ih =>
    simp only [List.cons_append, rowE, ih, List.length_cons]
    have : lo + 1 + (a.length : Int) = lo + ((a.length + 1 : Nat) : Int) := by omega
    rw [this]
theorem rat_nil (lo k : Int) : rat (lo, []) k = 0 := by simp [rat]
theorem rat_cons (lo c : Int) (cs : List Int) (k : Int) : rat (lo, c :: cs) k = (if lo = k then c else 0) + rat (lo + 1, cs) k := by
  unfold rat
  by_cases h : lo ≤ k
  · by_cases h2 : lo = k
    · subst h2
      rw [if_pos (Int.le_refl _), if_pos rfl, if_neg (by show ¬ lo + 1 ≤ lo; omega)]
      simp
    · have e : (k - lo).toNat = (k - (lo + 1)).toNat + 1 := by omega
      show (if lo ≤ k then (c :: cs).getD (k - lo).toNat 0 else 0) = (if lo = k then c else 0) + (if lo + 1 ≤ k then cs.getD (k - (lo + 1)).toNat 0 else 0)
      rw [if_pos h, if_neg h2, if_pos (by omega), e, List.getD_cons_succ]
      omega
  · show (if lo ≤ k then (c :: cs).getD (k - lo).toNat 0 else 0) = (if lo = k then c else 0) + (if lo + 1 ≤ k then cs.getD (k - (lo + 1)).toNat 0 else 0)
    rw [if_neg h, if_neg (by omega), if_neg (by omega)]
    rfl
theorem ev_row (cs : List Int) : ∀ lo k, ev (rowE lo cs) k = rat (lo, cs) k := by
  induction cs with
  | nil => intro lo k; rw [rat_nil]; rfl
  | cons c cs ih => intro lo k; rw [rat_cons, ← ih]; rfl
theorem rat_out {r : Raw} {k : Int} (h : k < r.1 ∨ r.1 + r.2.length ≤ k) : rat r k = 0 := by
  unfold rat
  by_cases q : r.1 ≤ k
  · rw [if_pos q, List.getD_eq_getElem?_getD, List.getElem?_eq_none (by omega)]
    rfl
  · rw [if_neg q]
theorem rat_in {r : Raw} {i : Nat} : rat r (r.1 + i) = r.2.getD i 0 := by
  unfold rat
  rw [if_pos (by omega)]
  congr 1
  omega
theorem rat_of {r : Raw} {i : Nat} {c : Int} (h : r.2[i]? = some c) : rat r (r.1 + i) = c := by
  rw [rat_in, List.getD_eq_getElem?_getD, h]
  rfl
theorem rat_some {r : Raw} {k : Int} (h : rat r k ≠ 0) : r.1 ≤ k ∧ k < r.1 + r.2.length := by
  by_cases q : k < r.1 ∨ r.1 + r.2.length ≤ k
  · exact absurd (rat_out q) h
  · omega
theorem row_mem {cs : List Int} : ∀ {lo : Int} {p : Int × Int}, p ∈ rowE lo cs → ∃ i : Nat, p.1 = lo + i ∧ cs[i]? = some p.2 := by
  induction cs with
  | nil => intro lo p h; cases h
  | cons c cs ih =>
    intro lo p h
    rcases List.mem_cons.mp h with e | h
    · exact ⟨0, by rw [e]; simp, by rw [e]; rfl⟩
    · obtain ⟨i, h1, h2⟩ := ih h
      exact ⟨i + 1, by rw [h1]; omega, by simpa using h2⟩
theorem row_at {cs : List Int} : ∀ {lo : Int} {i : Nat} {c : Int}, cs[i]? = some c → (lo + i, c) ∈ rowE lo cs := by
  induction cs with
  | nil => intro lo i c h; simp at h
  | cons d cs ih =>
    intro lo i c h
    cases i with
    | zero =>
      have e : d = c := by simpa using h
      subst e
      simp [rowE]
    | succ i =>
      have := ih (lo := lo + 1) (i := i) (c := c) (by simpa using h)
      rw [show lo + ((i + 1 : Nat) : Int) = lo + 1 + (i : Int) by omega]
      exact List.mem_cons_of_mem _ this
theorem row_len (lo : Int) (cs : List Int) : (rowE lo cs).length = cs.length := by
  induction cs generalizing lo with
  | nil => rfl
  | cons c cs ih => simp [rowE, ih]
theorem row_get (cs : List Int) : ∀ (lo : Int) (i : Nat), (rowE lo cs)[i]? = cs[i]?.map fun c => (lo + i, c) := by
  induction cs with
  | nil => intro lo i; simp [rowE]
  | cons d cs ih =>
    intro lo i
    cases i with
    | zero => simp [rowE]
    | succ i =>
      simp only [rowE, List.getElem?_cons_succ, ih]
      congr 1
      funext c
      rw [show lo + 1 + (i : Int) = lo + ((i + 1 : Nat) : Int) by omega]
theorem cv_zero {e : Ent} {g : Int → Int} {k : Int} (h : ∀ p ∈ e, g (k - p.1) = 0) : cv e g k = 0 := by
  induction e with
  | nil => rfl
  | cons p e ih =>
    rw [cv, h p List.mem_cons_self, ih fun q hq => h q (List.mem_cons_of_mem _ hq)]
    simp
theorem cv_congr {e : Ent} {g g' : Int → Int} (h : ∀ k, g k = g' k) (k : Int) : cv e g k = cv e g' k := by
  have : g = g' := funext h
  rw [this]
theorem cv_add (e : Ent) (g g' : Int → Int) (k : Int) : cv e (fun j => g j + g' j) k = cv e g k + cv e g' k := by
  induction e with
  | nil => simp [cv]
  | cons p e ih => simp only [cv, ih, Int.mul_add]; omega
theorem cv_single (e : Ent) (q : Int × Int) (k : Int) : cv e (fun j => if q.1 = j then q.2 else 0) k = q.2 * ev e (k - q.1) := by
  induction e with
  | nil => simp [cv, ev]
  | cons p e ih =>
    simp only [cv, ev, ih, Int.mul_add]
    congr 1
    by_cases h : p.1 = k - q.1
    · rw [if_pos (by omega), if_pos h, Int.mul_comm]
    · rw [if_neg (by omega), if_neg h]; simp
theorem cv_symm (e f : Ent) (k : Int) : cv e (ev f) k = cv f (ev e) k := by
  induction f generalizing k with
  | nil => exact cv_zero fun p _ => rfl
  | cons q f ih =>
    have : cv e (ev (q :: f)) k = cv e (fun j => if q.1 = j then q.2 else 0) k + cv e (ev f) k := cv_add e _ _ k
    rw [this, cv_single, ih]
    rfl
/-- the product depends on the first only by its values -/
theorem cv_same {e e' f : Ent} (h : ∀ k, ev e k = ev e' k) (k : Int) : cv e (ev f) k = cv e' (ev f) k := by
  rw [cv_symm, cv_symm e', cv_congr h]
theorem ev_add (f g : Ent) : ∀ k, ev (f ++ g) k = ev f k + ev g k := ev_append f g
/-- powers -/
def pwF (e : Ent) : Nat → Int → Int
  | 0 => fun k => if k = 0 then 1 else 0
  | n + 1 => cv e (pwF e n)
def mulE (e f : Ent) : Ent := e.flatMap fun p => f.map fun q => (p.1 + q.1, p.2 * q.2)
theorem ev_shift (p : Int × Int) (f : Ent) (k : Int) : ev (f.map fun q => (p.1 + q.1, p.2 * q.2)) k = p.2 * ev f (k - p.1) := by
  induction f with
  | nil => simp [ev]
  | cons q f ih =>
    simp only [List.map_cons, ev, ih, Int.mul_add]
    congr 1
    by_cases h : q.1 = k - p.1
    · rw [if_pos (by omega), if_pos h]
    · rw [if_neg (by omega), if_neg h]; simp
theorem ev_mul (e f : Ent) (k : Int) : ev (mulE e f) k = cv e (ev f) k := by
  unfold mulE
  induction e with
  | nil => rfl
  | cons p e ih => rw [List.flatMap_cons, ev_append, ih, ev_shift]; rfl
def pwE (e : Ent) : Nat → Ent
  | 0 => [(0, 1)]
  | n + 1 => mulE e (pwE e n)
theorem pw_ent (e : Ent) : ∀ n k, pwF e n k = ev (pwE e n) k
  | 0, k => by
    simp only [pwF, pwE, ev]
    by_cases h : k = 0
    · rw [if_pos h, if_pos h.symm]; rfl
    · rw [if_neg h, if_neg (fun z => h z.symm)]; rfl
  | n + 1, k => by
    simp only [pwF, pwE, ev_mul]
    exact cv_congr (pw_ent e n) k
theorem pw_same {e e' : Ent} (h : ∀ k, ev e k = ev e' k) : ∀ n k, pwF e n k = pwF e' n k
  | 0, k => rfl
  | n + 1, k => by
    simp only [pwF]
    rw [cv_congr (pw_same h n), cv_congr (pw_ent e' n), cv_congr (pw_ent e' n)]
    exact cv_same h k
theorem pw_one (e : Ent) (k : Int) : pwF e 1 k = ev e k := by
  show cv e (pwF e 0) k = ev e k
  have : ∀ j, pwF e 0 j = ev [(0, 1)] j := pw_ent e 0
  rw [cv_congr this, cv_symm]
  simp [cv]
theorem pw_single (a : Int) : ∀ (n : Nat) (k : Int), pwF [(a, 1)] n k = if n * a = k then 1 else 0
  | 0, k => by
    simp only [pwF]
    by_cases h : k = 0
    · subst h; simp
    · rw [if_neg h, if_neg (by simp; omega)]
  | n + 1, k => by
    simp only [pwF, cv, pw_single a n]
    have e : ((n + 1 : Nat) : Int) * a = n * a + a := by rw [Int.natCast_add, Int.add_mul]; simp
    rw [e]
    by_cases h : (n : Int) * a = k - a
    · rw [if_pos h, if_pos (by omega)]; rfl
    · rw [if_neg h, if_neg (by omega)]; rfl
/-! bounds -/
def Bd (f : Int → Int) (N M : Int) : Prop := (∀ k, f k ≠ 0 → -N ≤ k ∧ k ≤ N) ∧ ∀ k, -M ≤ f k ∧ f k ≤ M
theorem Bd.congr {f g : Int → Int} {N M : Int} (b : Bd f N M) (h : ∀ k, g k = f k) : Bd g N M := ⟨fun k q => b.1 k (by rw [← h]; exact q), fun k => by rw [h]; exact b.2 k⟩
theorem Bd.mono {f : Int → Int} {N M N' M' : Int} (b : Bd f N M) (h1 : N ≤ N') (h2 : M ≤ M') : Bd f N' M' := ⟨fun k q => by have := b.1 k q; omega, fun k => by have := b.2 k; omega⟩
theorem Bd.pos {f : Int → Int} {N M : Int} (b : Bd f N M) : 0 ≤ M := by have := b.2 0; omega
theorem mul_bd {a b A B : Int} (ha : -A ≤ a ∧ a ≤ A) (hb : -B ≤ b ∧ b ≤ B) : -(A * B) ≤ a * b ∧ a * b ≤ A * B := by
  have h : (a * b).natAbs ≤ (A * B).natAbs := by
    rw [Int.natAbs_mul, Int.natAbs_mul]
    exact Nat.mul_le_mul (by omega) (by omega)
  have : 0 ≤ A * B := Int.mul_nonneg (by omega) (by omega)
  omega
theorem cv_bd {e : Ent} {g : Int → Int} {C M : Int} (he : ∀ p ∈ e, -C ≤ p.2 ∧ p.2 ≤ C) (hg : ∀ k, -M ≤ g k ∧ g k ≤ M) (k : Int) : -(e.length * (C * M)) ≤ cv e g k ∧ cv e g k ≤ e.length * (C * M) := by
  induction e with
  | nil => simp [cv]
  | cons p e ih =>
    have h1 := mul_bd (he p List.mem_cons_self) (hg (k - p.1))
    have h2 := ih fun q hq => he q (List.mem_cons_of_mem _ hq)
    have e1 : (((p :: e).length : Nat) : Int) * (C * M) = e.length * (C * M) + C * M := by
      rw [List.length_cons, Int.natCast_add, Int.add_mul]; simp
    rw [e1]
    simp only [cv]
    omega
theorem cv_supp {e : Ent} {g : Int → Int} {N N' : Int} (he : ∀ p ∈ e, p.2 ≠ 0 → -N ≤ p.1 ∧ p.1 ≤ N) (hg : ∀ k, g k ≠ 0 → -N' ≤ k ∧ k ≤ N') (k : Int) (h : cv e g k ≠ 0) : -(N + N') ≤ k ∧ k ≤ N + N' := by
  induction e with
  | nil => exact absurd rfl h
  | cons p e ih =>
    by_cases q : p.2 * g (k - p.1) = 0
    · refine ih (fun q hq => he q (List.mem_cons_of_mem _ hq)) ?_
      intro z
      apply h
      simp only [cv, q, z]
      rfl
    · have a1 : p.2 ≠ 0 := fun z => q (by rw [z]; simp)
      have a2 : g (k - p.1) ≠ 0 := fun z => q (by rw [z]; simp)
      have b1 := he p List.mem_cons_self a1
      have b2 := hg _ a2
      omega
/-! a row is fixed by its values -/
theorem rat_zero_nil {r : Raw} (n : Nrm r) (h : ∀ k, rat r k = 0) : r = (0, []) := by
  rcases n with ⟨h1, h2⟩ | ⟨_, h2, _⟩
  · obtain ⟨a, b⟩ := r
    simp only at h1 h2
    rw [h1, h2]
  · exact absurd (h _) h2
theorem nrm_unique {r r' : Raw} (n : Nrm r) (n' : Nrm r') (h : ∀ k, rat r k = rat r' k) : r = r' := by
  have n0 := n
  have n0' := n'
  rcases n with ⟨h1, h2⟩ | ⟨h1, h2, h3⟩
  · have z : ∀ k, rat r k = 0 := fun k => by obtain ⟨a, b⟩ := r; simp only at h1; rw [h1]; exact rat_nil _ _
    rw [rat_zero_nil n0 z, rat_zero_nil n0' fun k => by rw [← h]; exact z k]
  · rcases n' with ⟨g1, g2⟩ | ⟨g1, g2, g3⟩
    · have z : ∀ k, rat r' k = 0 := fun k => by obtain ⟨a, b⟩ := r'; simp only at g1; rw [g1]; exact rat_nil _ _
      exact absurd ((h _).trans (z _)) h2
    · have a1 := rat_some (by rw [← h]; exact h2 : rat r' r.1 ≠ 0)
      have a2 := rat_some (by rw [h]; exact g2 : rat r r'.1 ≠ 0)
      have a3 := rat_some (by rw [← h]; exact h3 : rat r' (r.1 + r.2.length - 1) ≠ 0)
      have a4 := rat_some (by rw [h]; exact g3 : rat r (r'.1 + r'.2.length - 1) ≠ 0)
      have e1 : r.1 = r'.1 := by omega
      have e2 : r.2.length = r'.2.length := by omega
      refine Prod.ext e1 (List.ext_getElem e2 fun i p q => ?_)
      have x1 := rat_of (r := r) (i := i) (List.getElem?_eq_getElem p)
      have x2 := rat_of (r := r') (i := i) (List.getElem?_eq_getElem q)
      rw [← x1, ← x2, ← e1]
      exact h _
/-! tables -/
def tab (n : Nat) (f : Int → Int) : List Int := (List.range n).map fun (j : Nat) => f j
theorem tab_len (n : Nat) (f : Int → Int) : (tab n f).length = n := by simp [tab]
theorem tab_get {n : Nat} {f : Int → Int} {i : Nat} (h : i < n) : (tab n f)[i]? = some (f i) := by simp [tab, h]
theorem tab_set (n : Nat) (f : Int → Int) (i : Nat) (v : Int) : (tab n f).set i v = tab n (fun j => if j = (i : Int) then v else f j) := by
  apply List.ext_getElem
  · simp [tab]
  · intro j h1 h2
    simp only [tab, List.getElem_set, List.getElem_map, List.getElem_range]
    by_cases e : i = j
    · subst e; simp
    · rw [if_neg e, if_neg (by omega)]
theorem tab_congr {n : Nat} {f g : Int → Int} (h : ∀ j : Nat, j < n → f j = g j) : tab n f = tab n g := by
  apply List.ext_getElem
  · simp [tab]
  · intro j h1 h2
    simp only [tab, List.getElem_map, List.getElem_range]
    exact h j (by simpa [tab] using h1)
theorem rat_tab {n : Nat} {lo : Int} {F : Int → Int} (h : ∀ k, k < lo ∨ lo + n ≤ k → F k = 0) (k : Int) : rat (lo, tab n fun j => F (lo + j)) k = F k := by
  by_cases q : k < lo ∨ lo + n ≤ k
  · rw [h k q]
    exact rat_out (by rw [tab_len]; exact q)
  · have e : ∃ i : Nat, k = lo + i ∧ i < n := ⟨(k - lo).toNat, by omega, by omega⟩
    obtain ⟨i, rfl, hi⟩ := e
    exact rat_of (r := (lo, tab n fun j => F (lo + j))) (tab_get (f := fun j => F (lo + j)) hi)
theorem tab_zero (n : Nat) : List.replicate n (0 : Int) = tab n fun _ => 0 := by
  apply List.ext_getElem
  · simp [tab]
  · intro j h1 h2
    simp [tab]
/-- the row up to one more item -/
theorem row_take {cs : List Int} {t : Nat} {c : Int} (h : cs[t]? = some c) (lo : Int) : rowE lo (cs.take (t + 1)) = rowE lo (cs.take t) ++ [(lo + t, c)] := by
  have hl : t < cs.length := by
    rcases Nat.lt_or_ge t cs.length with q | q
    · exact q
    · rw [List.getElem?_eq_none q] at h; cases h
  rw [List.take_add_one, h, Option.toList_some, rowE_append, List.length_take, Nat.min_eq_left (by omega)]
  rfl
theorem rat_take {cs : List Int} {t : Nat} {c : Int} (h : cs[t]? = some c) (lo k : Int) : rat (lo, cs.take (t + 1)) k = rat (lo, cs.take t) k + if lo + t = k then c else 0 := by
  rw [← ev_row, row_take h, ev_append, ev_row]
  simp [ev]
theorem cv_take {cs : List Int} {t : Nat} {c : Int} (h : cs[t]? = some c) (lo : Int) (g : Int → Int) (k : Int) : cv (rowE lo (cs.take (t + 1))) g k = cv (rowE lo (cs.take t)) g k + c * g (k - (lo + t)) := by
  rw [row_take h, cv_append]
  simp [cv]
/-! trimming -/
theorem trim_rat {lo : Int} {row : List Int} {a b : Nat} (hab : a ≤ b) (hb : b ≤ row.length) (h1 : ∀ i, i < a → row.getD i 0 = 0) (h2 : ∀ i, b ≤ i → row.getD i 0 = 0) (k : Int) :
    rat (lo + a, (row.take b).drop a) k = rat (lo, row) k := by
  have g : ∀ i : Nat, ((row.take b).drop a).getD i 0 = if a + i < b then row.getD (a + i) 0 else 0 := fun i => by
    rw [List.getD_eq_getElem?_getD, List.getElem?_drop, List.getElem?_take]
    split
    · rw [List.getD_eq_getElem?_getD]
    · rfl
  by_cases q : k < lo
  · rw [rat_out (.inl (by show k < lo + a; omega)), rat_out (.inl q)]
  · obtain ⟨j, rfl⟩ : ∃ j : Nat, k = lo + j := ⟨(k - lo).toNat, by omega⟩
    rw [rat_in (r := (lo, row))]
    by_cases q2 : j < a
    · rw [h1 j q2]
      exact rat_out (.inl (by show lo + (j : Int) < lo + a; omega))
    · have e : lo + (j : Int) = (lo + a) + ((j - a : Nat) : Int) := by omega
      rw [e, rat_in (r := (lo + a, (row.take b).drop a)), g]
      rw [show a + (j - a) = j by omega]
      split
      · rfl
      · exact (h2 j (by omega)).symm
theorem trim_nrm {lo : Int} {row : List Int} {a b : Nat} (hab : a < b) (hb : b ≤ row.length) (h1 : row.getD a 0 ≠ 0) (h2 : row.getD (b - 1) 0 ≠ 0) : Nrm (lo + a, (row.take b).drop a) := by
  have hl : ((row.take b).drop a).length = b - a := by simp; omega
  have g : ∀ i : Nat, ((row.take b).drop a).getD i 0 = if a + i < b then row.getD (a + i) 0 else 0 := fun i => by
    rw [List.getD_eq_getElem?_getD, List.getElem?_drop, List.getElem?_take]
    split
    · rw [List.getD_eq_getElem?_getD]
    · rfl
  refine .inr ⟨fun z => ?_, ?_, ?_⟩
  · have : ((row.take b).drop a).length = 0 := by
      have z' : (row.take b).drop a = [] := z
      rw [z']; rfl
    omega
  · have e := rat_in (r := (lo + a, (row.take b).drop a)) (i := 0)
    simp only [Int.natCast_zero, Int.add_zero] at e
    rw [e, g, if_pos (by omega)]
    exact h1
  · have e := rat_in (r := (lo + a, (row.take b).drop a)) (i := b - a - 1)
    have x : (lo + (a : Int)) + (((row.take b).drop a).length : Nat) - 1 = lo + a + ((b - a - 1 : Nat) : Int) := by rw [hl]; omega
    show rat (lo + a, (row.take b).drop a) (lo + a + (((row.take b).drop a).length : Nat) - 1) ≠ 0
    rw [x, e, g, if_pos (by omega), show a + (b - a - 1) = b - 1 by omega]
    exact h2
theorem rat_zeros {lo : Int} {row : List Int} (h : ∀ i, row.getD i 0 = 0) (k : Int) : rat (lo, row) k = 0 := by
  unfold rat
  split
  · exact h _
  · rfl
theorem nrm_nil : Nrm (0, []) := .inl ⟨rfl, rfl⟩
/-! the other rows -/
theorem rat_neg (r : Raw) (k : Int) : rat (r.1, r.2.map fun c => -c) k = -rat r k := by
  unfold rat
  split
  · simp only [List.getD_eq_getElem?_getD, List.getElem?_map]
    cases r.2[(k - r.1).toNat]? <;> simp
  · rfl
theorem nrm_neg {r : Raw} (n : Nrm r) : Nrm (r.1, r.2.map fun c => -c) := by
  rcases n with ⟨h1, h2⟩ | ⟨h1, h2, h3⟩
  · exact .inl ⟨by simp [h1], h2⟩
  · refine .inr ⟨by simpa using h1, ?_, ?_⟩
    · rw [rat_neg]
      exact fun z => h2 (by have z' : -rat r r.1 = 0 := z; omega)
    · rw [rat_neg]
      have : ((r.2.map fun c => -c).length) = r.2.length := by simp
      show -rat r (r.1 + ((r.2.map fun c => -c).length : Nat) - 1) ≠ 0
      rw [this]
      exact fun z => h3 (by omega)
theorem rat_rev {r : Raw} (k : Int) : rat (1 - r.1 - r.2.length, r.2.reverse) k = rat r (-k) := by
  by_cases q : k < 1 - r.1 - r.2.length ∨ 1 - r.1 - r.2.length + r.2.length ≤ k
  · rw [rat_out (r := (1 - r.1 - r.2.length, r.2.reverse)) (by simpa using q), rat_out (by omega)]
  · obtain ⟨i, rfl⟩ : ∃ i : Nat, k = (1 - r.1 - r.2.length) + i := ⟨(k - (1 - r.1 - r.2.length)).toNat, by omega⟩
    have hi : i < r.2.length := by omega
    have e2 : -((1 - r.1 - r.2.length) + (i : Int)) = r.1 + ((r.2.length - 1 - i : Nat) : Int) := by omega
    rw [rat_in (r := (1 - r.1 - r.2.length, r.2.reverse)), e2, rat_in (r := r)]
    simp only [List.getD_eq_getElem?_getD]
    rw [List.getElem?_reverse hi]
theorem nrm_rev {r : Raw} (n : Nrm r) (h : r.2 ≠ []) : Nrm (1 - r.1 - r.2.length, r.2.reverse) := by
  rcases n with ⟨h1, _⟩ | ⟨h1, h2, h3⟩
  · exact absurd h1 h
  · refine .inr ⟨by simpa using h, ?_, ?_⟩
    · rw [rat_rev]
      show rat r (-(1 - r.1 - r.2.length)) ≠ 0
      rw [show -(1 - r.1 - (r.2.length : Int)) = r.1 + r.2.length - 1 by omega]
      exact h3
    · rw [rat_rev]
      show rat r (-(1 - r.1 - r.2.length + (r.2.reverse.length : Nat) - 1)) ≠ 0
      rw [List.length_reverse, show -(1 - r.1 - (r.2.length : Int) + r.2.length - 1) = r.1 by omega]
      exact h2
theorem rat_pad (lo : Int) (n m : Nat) (cs : List Int) (k : Int) : rat (lo - n, List.replicate n 0 ++ cs ++ List.replicate m 0) k = rat (lo, cs) k := by
  have z : ∀ (m : Nat) (l k : Int), ev (rowE l (List.replicate m 0)) k = 0 := fun m => by
    induction m with
    | zero => intro l k; rfl
    | succ m ih => intro l k; rw [List.replicate_succ]; show (if l = k then 0 else 0) + ev (rowE (l + 1) (List.replicate m 0)) k = 0; rw [ih]; split <;> rfl
  rw [← ev_row, rowE_append, rowE_append, ev_append, ev_append, z, z, ev_row]
  rw [List.length_replicate, show lo - (n : Int) + n = lo by omega]
  omega
/-- within its bounds the row is short -/
theorem nrm_bd {r : Raw} {N M : Int} (n : Nrm r) (hN : 0 ≤ N) (b : Bd (rat r) N M) : -N ≤ r.1 ∧ r.1 ≤ N ∧ r.1 + r.2.length ≤ N + 1 ∧ (r.2.length : Int) ≤ 2 * N + 1 ∧ ∀ c ∈ r.2, -M ≤ c ∧ c ≤ M := by
  have cs : ∀ c ∈ r.2, -M ≤ c ∧ c ≤ M := fun c hc => by
    obtain ⟨i, hi⟩ := List.getElem?_of_mem hc
    rw [← rat_of hi]
    exact b.2 _
  rcases n with ⟨h1, h2⟩ | ⟨h1, h2, h3⟩
  · have : r.2.length = 0 := by rw [h1]; rfl
    refine ⟨by omega, by omega, by omega, by omega, cs⟩
  · have a := b.1 _ h2
    have c := b.1 _ h3
    exact ⟨by omega, by omega, by omega, by omega, cs⟩
end Lau
end
section
/-! ## part M2 -/
namespace Lau
open PySem PySem.Spec PyProof.Rows L2
/-! dicts of ints as entries -/
def keys (e : Ent) : List Int := e.map (·.1)
def KN (e : Ent) : Prop := (keys e).Nodup
def ND (e : Ent) : Prop := KN e ∧ ∀ p ∈ e, p.2 ≠ 0
def putE (e : Ent) (k v : Int) : Ent := if (e.any fun p => decide (p.1 = k)) = true then e.map (fun p => if p.1 = k then (p.1, v) else p) else e ++ [(k, v)]
def dropE (e : Ent) (k : Int) : Ent := e.filter fun p => decide (p.1 ≠ k)
theorem put_eKV (e : Ent) (k v : Int) : putK (eKV e) (.inl k) (.int v) = eKV (putE e k v) := by
  unfold putK putE
  have h : ((eKV e).any fun kv => decide (kv.1 = Sum.inl k)) = e.any fun p => decide (p.1 = k) := by
    unfold eKV
    rw [List.any_map]
    congr 1
    funext p
    simp
  rw [h]
  split
  · unfold eKV
    rw [List.map_map, List.map_map]
    congr 1
    funext p
    simp only [Function.comp]
    by_cases q : p.1 = k
    · rw [if_pos (by rw [q]), if_pos q]
    · rw [if_neg (fun z => q (Sum.inl.inj z)), if_neg q]
  · simp [eKV]
theorem drop_eKV (e : Ent) (k : Int) : dropK (eKV e) (.inl k) = eKV (dropE e k) := by
  unfold dropK dropE eKV
  rw [List.filter_map]
  congr 1
  apply congrArg (fun f => List.filter f e)
  funext p
  simp
theorem any_key {e : Ent} {k : Int} : (e.any fun p => decide (p.1 = k)) = true ↔ k ∈ keys e := by
  simp [keys]
theorem ev_none {e : Ent} {k : Int} (h : k ∉ keys e) : ev e k = 0 := by
  induction e with
  | nil => rfl
  | cons p e ih =>
    have h' : ¬ k = p.1 ∧ k ∉ keys e := by simpa [keys] using h
    rw [ev, if_neg (fun z => h'.1 z.symm), ih h'.2]; rfl
theorem ev_mem {e : Ent} (n : KN e) {p : Int × Int} (h : p ∈ e) : ev e p.1 = p.2 := by
  induction e with
  | nil => cases h
  | cons q e ih =>
    have n' : q.1 ∉ keys e ∧ KN e := by
      have := n
      unfold KN keys at this
      rw [List.map_cons, List.nodup_cons] at this
      exact this
    rcases List.mem_cons.mp h with rfl | h'
    · rw [ev, if_pos rfl, ev_none n'.1]; omega
    · have : q.1 ≠ p.1 := fun z => n'.1 (by rw [z]; exact List.mem_map.mpr ⟨p, h', rfl⟩)
      rw [ev, if_neg this, ih n'.2 h']; omega
theorem lkp_mem {e : Ent} (n : KN e) {p : Int × Int} (h : p ∈ e) : lkp e p.1 = some p.2 := by
  induction e with
  | nil => cases h
  | cons q e ih =>
    have n' : q.1 ∉ keys e ∧ KN e := by
      have := n
      unfold KN keys at this
      rw [List.map_cons, List.nodup_cons] at this
      exact this
    rcases List.mem_cons.mp h with rfl | h'
    · simp [lkp]
    · have : q.1 ≠ p.1 := fun z => n'.1 (by rw [z]; exact List.mem_map.mpr ⟨p, h', rfl⟩)
      have := ih n'.2 h'
      simpa [lkp, List.find?_cons, ‹q.1 ≠ p.1›] using this
theorem lkp_none {e : Ent} {k : Int} (h : k ∉ keys e) : lkp e k = none := by
  unfold lkp
  rw [List.find?_eq_none.mpr]
  · rfl
  · intro p hp
    simpa using fun z : p.1 = k => h (by rw [← z]; exact List.mem_map.mpr ⟨p, hp, rfl⟩)
theorem lkp_get {e : Ent} (n : KN e) (k : Int) : (lkp e k).getD 0 = ev e k := by
  by_cases h : k ∈ keys e
  · obtain ⟨p, hp, rfl⟩ := List.mem_map.mp h
    rw [lkp_mem n hp, ev_mem n hp]; rfl
  · rw [lkp_none h, ev_none h]; rfl
theorem lkp_some {e : Ent} (n : KN e) {k : Int} (h : k ∈ keys e) : lkp e k = some (ev e k) := by
  obtain ⟨p, hp, rfl⟩ := List.mem_map.mp h
  rw [lkp_mem n hp, ev_mem n hp]
theorem nd_key {e : Ent} (n : ND e) {k : Int} : k ∈ keys e ↔ ev e k ≠ 0 := by
  constructor
  · intro h
    obtain ⟨p, hp, rfl⟩ := List.mem_map.mp h
    rw [ev_mem n.1 hp]
    exact n.2 p hp
  · intro h
    by_cases q : k ∈ keys e
    · exact q
    · exact absurd (ev_none q) h
theorem keys_put (e : Ent) (k v : Int) : keys (putE e k v) = if k ∈ keys e then keys e else keys e ++ [k] := by
  unfold putE
  by_cases h : k ∈ keys e
  · rw [if_pos (any_key.mpr h), if_pos h]
    unfold keys
    rw [List.map_map]
    apply List.map_congr_left
    intro p _
    simp only [Function.comp]
    split <;> rfl
  · rw [if_neg (fun z => h (any_key.mp z)), if_neg h]
    simp [keys]
theorem kn_put {e : Ent} (n : KN e) (k v : Int) : KN (putE e k v) := by
  unfold KN
  rw [keys_put]
  split
  · exact n
  · rename_i h
    refine List.nodup_append.mpr ⟨n, by simp, ?_⟩
    intro a ha b hb e'
    rw [List.mem_singleton] at hb
    exact h (by rw [← hb, ← e']; exact ha)
theorem len_put (e : Ent) (k v : Int) : (putE e k v).length ≤ e.length + 1 := by
  have h := congrArg List.length (keys_put e k v)
  unfold keys at h
  rw [List.length_map] at h
  rw [h]
  split <;> simp
theorem ev_map_put {e : Ent} (n : KN e) {k : Int} (v j : Int) (h : k ∈ keys e) : ev (e.map fun p => if p.1 = k then (p.1, v) else p) j = if j = k then v else ev e j := by
  induction e with
  | nil => cases h
  | cons p e ih =>
    have n' : p.1 ∉ keys e ∧ KN e := by
      have := n
      unfold KN keys at this
      rw [List.map_cons, List.nodup_cons] at this
      exact this
    rw [List.map_cons]
    by_cases q : p.1 = k
    · subst q
      rw [if_pos rfl]
      have e1 : (e.map fun q => if q.1 = p.1 then (q.1, v) else q) = e := by
        have : ∀ q ∈ e, (if q.1 = p.1 then (q.1, v) else q) = q := fun q hq => if_neg fun z => n'.1 (by rw [← z]; exact List.mem_map.mpr ⟨q, hq, rfl⟩)
        rw [List.map_congr_left this]
        simp
      rw [e1]
      simp only [ev]
      by_cases j' : j = p.1
      · rw [if_pos j'.symm, if_pos j', ev_none (by rw [j']; exact n'.1)]; omega
      · rw [if_neg (fun z => j' z.symm), if_neg j', if_neg (fun z => j' z.symm)]
    · rw [if_neg q]
      have h' : k ∈ keys e := by
        rcases List.mem_cons.mp (show k ∈ p.1 :: keys e from h) with z | z
        · exact absurd z.symm q
        · exact z
      simp only [ev]
      rw [ih n'.2 h']
      by_cases j' : j = k
      · rw [if_pos j', if_pos j', if_neg (by omega)]; omega
      · rw [if_neg j', if_neg j']
theorem ev_put {e : Ent} (n : KN e) (k v j : Int) : ev (putE e k v) j = if j = k then v else ev e j := by
  unfold putE
  by_cases h : k ∈ keys e
  · rw [if_pos (any_key.mpr h)]
    exact ev_map_put n v j h
  · rw [if_neg (fun z => h (any_key.mp z)), ev_append]
    simp only [ev]
    by_cases j' : j = k
    · rw [if_pos j', if_pos j'.symm, j', ev_none h]; omega
    · rw [if_neg j', if_neg (fun z => j' z.symm)]; omega
theorem mem_put {e : Ent} {k v : Int} {p : Int × Int} (h : p ∈ putE e k v) : p = (k, v) ∨ p ∈ e := by
  unfold putE at h
  split at h
  · obtain ⟨q, hq, e'⟩ := List.mem_map.mp h
    split at e'
    · rename_i z
      exact .inl (by rw [← e', z])
    · exact .inr (by rw [← e']; exact hq)
  · rcases List.mem_append.mp h with q | q
    · exact .inr q
    · exact .inl (List.mem_singleton.mp q)
/-- the entries that are not 0 -/
def nzE (e : Ent) : Ent := e.filter fun p => decide (p.2 ≠ 0)
theorem ev_nz (e : Ent) (k : Int) : ev (nzE e) k = ev e k := by
  induction e with
  | nil => rfl
  | cons p e ih =>
    unfold nzE at ih ⊢
    rw [List.filter_cons]
    split
    · simp only [ev, ih]
    · rename_i h
      have : p.2 = 0 := by simpa using h
      simp only [ev, ih, this]
      split <;> omega
theorem nz_nd {e : Ent} (n : KN e) : ND (nzE e) := by
  refine ⟨?_, fun p hp => ?_⟩
  · exact List.Nodup.sublist (List.Sublist.map _ List.filter_sublist) n
  · have := (List.mem_filter.mp hp).2
    simpa using this
theorem len_nz (e : Ent) : (nzE e).length ≤ e.length := List.length_filter_le _ _
/-- one turn of the loop that throws out the noughts -/
theorem nz_step {e : Ent} (n : KN e) {t : Nat} {p : Int × Int} (h : e[t]? = some p) :
    nzE (e.take (t + 1)) ++ e.drop (t + 1) = if p.2 = 0 then dropE (nzE (e.take t) ++ e.drop t) p.1 else nzE (e.take t) ++ e.drop t := by
  have hl : t < e.length := by
    rcases Nat.lt_or_ge t e.length with q | q
    · exact q
    · rw [List.getElem?_eq_none q] at h; cases h
  have hp : e[t] = p := by rw [List.getElem?_eq_getElem hl] at h; exact Option.some.inj h
  have hd : e.drop t = p :: e.drop (t + 1) := by rw [List.drop_eq_getElem_cons hl, hp]
  have ht : e.take (t + 1) = e.take t ++ [p] := by rw [List.take_add_one, h]; rfl
  have sp : e = e.take t ++ p :: e.drop (t + 1) := by rw [← hd, List.take_append_drop]
  have nn : (keys (e.take t ++ p :: e.drop (t + 1))).Nodup := by rw [← sp]; exact n
  unfold keys at nn
  rw [List.map_append, List.map_cons, List.nodup_append, List.nodup_cons] at nn
  obtain ⟨n1, ⟨n2, n3⟩, n4⟩ := nn
  have a1 : nzE (e.take (t + 1)) = nzE (e.take t) ++ nzE [p] := by rw [ht]; exact List.filter_append ..
  by_cases z : p.2 = 0
  · rw [if_pos z, a1, hd]
    have b1 : nzE [p] = [] := by simp [nzE, z]
    rw [b1, List.append_nil]
    unfold dropE
    rw [List.filter_append, List.filter_cons]
    rw [if_neg (by simp)]
    congr 1
    · symm
      apply List.filter_eq_self.mpr
      intro q hq
      have hq' : q ∈ e.take t := (List.mem_filter.mp hq).1
      simpa using fun z : q.1 = p.1 => n4 q.1 (List.mem_map.mpr ⟨q, hq', rfl⟩) p.1 (by simp) z
    · symm
      apply List.filter_eq_self.mpr
      intro q hq
      simpa using fun z : q.1 = p.1 => n2 (by rw [← z]; exact List.mem_map.mpr ⟨q, hq, rfl⟩)
  · rw [if_neg z, a1, hd]
    have b1 : nzE [p] = [p] := by simp [nzE, z]
    rw [b1]
    simp
theorem nz_here {e : Ent} (n : KN e) {t : Nat} {p : Int × Int} (h : e[t]? = some p) : KN (nzE (e.take t) ++ e.drop t) ∧ p ∈ nzE (e.take t) ++ e.drop t := by
  have hl : t < e.length := by
    rcases Nat.lt_or_ge t e.length with q | q
    · exact q
    · rw [List.getElem?_eq_none q] at h; cases h
  have hp : e[t] = p := by rw [List.getElem?_eq_getElem hl] at h; exact Option.some.inj h
  have hd : e.drop t = p :: e.drop (t + 1) := by rw [List.drop_eq_getElem_cons hl, hp]
  refine ⟨?_, by rw [hd]; simp⟩
  have s1 : (nzE (e.take t) ++ e.drop t).Sublist (e.take t ++ e.drop t) := List.Sublist.append List.filter_sublist (List.Sublist.refl _)
  rw [List.take_append_drop] at s1
  exact List.Nodup.sublist (List.Sublist.map _ s1) n
/-! equality of dicts -/
theorem dEq_iff {e f : Ent} (ne : ND e) (nf : ND f) : dEq e f = true ↔ ∀ k, ev e k = ev f k := by
  constructor
  · intro h
    simp only [dEq, Bool.and_eq_true, beq_iff_eq, List.all_eq_true] at h
    obtain ⟨hl, ha⟩ := h
    have sub : keys e ⊆ keys f := fun k hk => by
      obtain ⟨p, hp, rfl⟩ := List.mem_map.mp hk
      have := ha p hp
      by_cases q : p.1 ∈ keys f
      · exact q
      · rw [lkp_none q] at this; cases this
    have sub2 : keys f ⊆ keys e := fun k hk => by
      by_cases q : k ∈ keys e
      · exact q
      · have n2 : (k :: keys e).Nodup := List.nodup_cons.mpr ⟨q, ne.1⟩
        have s2 : (k :: keys e) ⊆ keys f := fun x hx => by
          rcases List.mem_cons.mp hx with rfl | z
          · exact hk
          · exact sub z
        have := List.Nodup.length_le_of_subset n2 s2
        simp [keys] at this
        omega
    intro k
    by_cases q : k ∈ keys e
    · obtain ⟨p, hp, rfl⟩ := List.mem_map.mp q
      have h1 := ha p hp
      rw [ev_mem ne.1 hp, ← lkp_get nf.1, h1]; rfl
    · rw [ev_none q, ev_none fun z => q (sub2 z)]
  · intro h
    have mem : ∀ k, k ∈ keys e ↔ k ∈ keys f := fun k => by rw [nd_key ne, nd_key nf, h]
    simp only [dEq, Bool.and_eq_true, beq_iff_eq, List.all_eq_true]
    refine ⟨?_, fun p hp => ?_⟩
    · have l1 := List.Nodup.length_le_of_subset ne.1 fun k hk => (mem k).mp hk
      have l2 := List.Nodup.length_le_of_subset nf.1 fun k hk => (mem k).mpr hk
      simp only [keys, List.length_map] at l1 l2
      omega
    · have hk : p.1 ∈ keys f := (mem p.1).mp (List.mem_map.mpr ⟨p, hp, rfl⟩)
      rw [lkp_some nf.1 hk, ← h, ev_mem ne.1 hp]
/-! a dict and its row -/
def nzL (r : Raw) : Ent := nzE (rowE r.1 r.2)
theorem row_lt (lo : Int) (cs : List Int) : (rowE lo cs).Pairwise fun p q => p.1 < q.1 := by
  induction cs generalizing lo with
  | nil => exact .nil
  | cons c cs ih =>
    refine .cons (fun p hp => ?_) (ih _)
    obtain ⟨i, h, _⟩ := row_mem hp
    show lo < p.1
    omega
theorem nzL_mem {r : Raw} {p : Int × Int} : p ∈ nzL r ↔ rat r p.1 ≠ 0 ∧ p.2 = rat r p.1 := by
  unfold nzL nzE
  rw [List.mem_filter]
  constructor
  · rintro ⟨h1, h2⟩
    obtain ⟨i, e1, e2⟩ := row_mem h1
    have := rat_of e2
    rw [e1, this]
    exact ⟨by simpa using h2, rfl⟩
  · rintro ⟨h1, h2⟩
    obtain ⟨a, b⟩ := rat_some h1
    obtain ⟨i, hi, hl⟩ : ∃ i : Nat, p.1 = r.1 + i ∧ i < r.2.length := ⟨(p.1 - r.1).toNat, by omega, by omega⟩
    have hc := List.getElem?_eq_getElem hl
    have := rat_of hc
    have e2 : p = (r.1 + i, r.2[i]) := Prod.ext hi (by rw [h2, hi, this])
    refine ⟨by rw [e2]; exact row_at hc, ?_⟩
    simpa using fun z : p.2 = 0 => h1 (by rw [← h2]; exact z)
/-- the keys of a dict, sorted, with their values: the row's entries that are not 0 -/
theorem sorted_nz {e : Ent} {r : Raw} (n : ND e) (h : ∀ k, ev e k = rat r k) {L : List Int} (hp : L.Perm (keys e)) (hs : L.Pairwise (· ≤ ·)) : L.map (fun k => (k, ev e k)) = nzL r := by
  have nL : L.Nodup := hp.nodup_iff.mpr n.1
  have p1 : (L.map fun k => (k, ev e k)).Pairwise fun p q => p.1 < q.1 := by
    rw [List.pairwise_map]
    have : L.Pairwise fun a b => a ≤ b ∧ a ≠ b := List.Pairwise.and hs nL
    exact this.imp fun {a b} z => by simp only; omega
  have p2 : (nzL r).Pairwise fun p q => p.1 < q.1 := List.Pairwise.filter _ (row_lt _ _)
  have mem : ∀ p, p ∈ (L.map fun k => (k, ev e k)) ↔ p ∈ nzL r := fun p => by
    rw [nzL_mem, List.mem_map]
    constructor
    · rintro ⟨k, hk, rfl⟩
      have := (nd_key n).mp (hp.mem_iff.mp hk)
      exact ⟨by rw [← h]; exact this, h k⟩
    · rintro ⟨h1, h2⟩
      refine ⟨p.1, hp.mem_iff.mpr ((nd_key n).mpr (by rw [h]; exact h1)), ?_⟩
      exact Prod.ext rfl (by simp only; rw [h2, h])
  have d : ∀ {M : Ent}, (M.Pairwise fun p q => p.1 < q.1) → M.Nodup := fun {M} hM => hM.imp fun {a b} z e => by rw [e] at z; omega
  have pm : (L.map fun k => (k, ev e k)).Perm (nzL r) := by
    apply List.perm_iff_count.mpr
    intro p
    have c1 := (d p1).count (a := p)
    have c2 := (d p2).count (a := p)
    rw [c1, c2]
    by_cases q : p ∈ nzL r
    · rw [if_pos q, if_pos ((mem p).mpr q)]
    · rw [if_neg q, if_neg fun z => q ((mem p).mp z)]
  exact List.Perm.eq_of_pairwise (fun a b _ _ z1 z2 => absurd z1 (by omega)) p1 p2 pm
theorem sum_perm {l m : List Int} (h : l.Perm m) : l.sum = m.sum := by
  induction h with
  | nil => rfl
  | cons x _ ih => simp [ih]
  | swap x y l => simp; omega
  | trans _ _ a b => exact a.trans b
theorem sum_nz (e : Ent) : ((nzE e).map (·.2)).sum = (e.map (·.2)).sum := by
  induction e with
  | nil => rfl
  | cons p e ih =>
    unfold nzE at ih ⊢
    rw [List.filter_cons]
    split
    · rw [List.map_cons, List.map_cons, List.sum_cons, List.sum_cons, ih]
    · rename_i h
      have : p.2 = 0 := by simpa using h
      rw [List.map_cons, List.sum_cons, ih, this]; omega
theorem row_snd (lo : Int) (cs : List Int) : (rowE lo cs).map (·.2) = cs := by
  induction cs generalizing lo with
  | nil => rfl
  | cons c cs ih => simp [rowE, ih]
theorem exists_sorted : ∀ l : List Int, ∃ m : List Int, m.Perm l ∧ m.Pairwise (· ≤ ·) := fun l =>
  ⟨l.mergeSort, List.mergeSort_perm l _, by
    have := List.pairwise_mergeSort (le := fun a b : Int => decide (a ≤ b)) (fun a b c h1 h2 => by simp at *; omega) (fun a b => by simp; omega) l
    exact this.imp fun {a b} z => by simpa using z⟩
/-- the values of a dict and its row have one sum -/
theorem sum_vals {e : Ent} {r : Raw} (n : ND e) (h : ∀ k, ev e k = rat r k) : (e.map (·.2)).sum = r.2.sum := by
  obtain ⟨L, hp, hs⟩ := exists_sorted (keys e)
  have s := sorted_nz n h hp hs
  have e1 : e.map (·.2) = (keys e).map (ev e) := by
    unfold keys
    rw [List.map_map]
    exact List.map_congr_left fun p hp' => (ev_mem n.1 hp').symm
  have e2 : (L.map (ev e)) = (nzL r).map (·.2) := by rw [← s, List.map_map]; rfl
  rw [e1, sum_perm ((hp.map (ev e)).symm), e2]
  unfold nzL
  rw [sum_nz, row_snd]
/-- lowest and highest -/
theorem ends_of {e : Ent} {r : Raw} (n : ND e) (nr : Nrm r) (h : ∀ k, ev e k = rat r k) (hne : e ≠ []) {a b : Int} (ha : a ∈ keys e) (ha' : ∀ y ∈ keys e, a ≤ y) (hb : b ∈ keys e) (hb' : ∀ y ∈ keys e, y ≤ b) :
    r.2 ≠ [] ∧ a = r.1 ∧ b = r.1 + r.2.length - 1 := by
  have k1 := (nd_key n).mp ha
  have k2 := (nd_key n).mp hb
  rw [h] at k1 k2
  have s1 := rat_some k1
  have s2 := rat_some k2
  rcases nr with ⟨z, _⟩ | ⟨z, z1, z2⟩
  · rw [z] at s1
    simp at s1
    omega
  · have m1 := ha' _ ((nd_key n).mpr (by rw [h]; exact z1))
    have m2 := hb' _ ((nd_key n).mpr (by rw [h]; exact z2))
    exact ⟨z, by omega, by omega⟩
theorem empty_of {e : Ent} {r : Raw} (n : ND e) (nr : Nrm r) (h : ∀ k, ev e k = rat r k) : e = [] ↔ r.2 = [] := by
  constructor
  · intro z
    rcases nr with ⟨q, _⟩ | ⟨q, q1, _⟩
    · exact q
    · rw [← h, z] at q1
      exact absurd rfl q1
  · intro z
    cases e with
    | nil => rfl
    | cons p e =>
      have := (nd_key n (k := p.1)).mp (by simp [keys])
      rw [h] at this
      have s := rat_some this
      rw [z] at s
      simp at s
      omega
/-- the row read out of the dict -/
theorem row_read {e : Ent} {r : Raw} (n : KN e) (h : ∀ k, ev e k = rat r k) : (tab r.2.length fun j => (lkp e (r.1 + j)).getD 0) = r.2 := by
  apply List.ext_getElem
  · exact tab_len _ _
  · intro i h1 h2
    have g := tab_get (n := r.2.length) (f := fun j => (lkp e (r.1 + j)).getD 0) h2
    rw [List.getElem?_eq_getElem h1] at g
    have := Option.some.inj g
    rw [this, lkp_get n, h]
    exact rat_of (List.getElem?_eq_getElem h2)
end Lau
end
section
/-! ## part M3 -/
namespace Lau
open PySem PySem.Spec PyProof.Rows L2
/-! the texts of laurents -/
def itl (i : Int) : List Nat := TL.tl (Str.ofString (toString i))
theorem itl_S (i : Int) : (Str.ofString (toString i) : Str) = SX.S (itl i) := (TL.mk_tl _).symm
theorem itl_nat (n : Nat) : itl (n : Int) = TL.numL n := TL.tl_num n
theorem itl_neg {n : Nat} (h : 0 < n) : itl (-(n : Int)) = 45 :: TL.numL n := by
  obtain ⟨m, rfl⟩ : ∃ m, n = m + 1 := ⟨n - 1, by omega⟩
  have e : -((m + 1 : Nat) : Int) = Int.negSucc m := rfl
  have e2 : (toString (Int.negSucc m) : String) = "-" ++ toString ((m + 1 : Nat) : Int) := rfl
  have t := itl_nat (m + 1)
  unfold itl at t ⊢
  rw [TL.tl_ofString] at t
  rw [e, e2, TL.tl_ofString, String.toList_append, List.map_append, t]
  rfl
theorem itl_cases (i : Int) : (∃ n : Nat, i = n ∧ itl i = TL.numL n) ∨ (∃ n : Nat, 0 < n ∧ i = -(n : Int) ∧ itl i = 45 :: TL.numL n) := by
  by_cases h : 0 ≤ i
  · obtain ⟨n, rfl⟩ : ∃ n : Nat, i = n := ⟨i.toNat, by omega⟩
    exact .inl ⟨n, rfl, itl_nat n⟩
  · obtain ⟨n, hn, rfl⟩ : ∃ n : Nat, 0 < n ∧ i = -(n : Int) := ⟨(-i).toNat, by omega, by omega⟩
    exact .inr ⟨n, hn, rfl, itl_neg hn⟩
theorem itl_chars {i : Int} {c : Nat} (h : c ∈ itl i) : c = 45 ∨ (48 ≤ c ∧ c ≤ 57) := by
  rcases itl_cases i with ⟨n, _, e⟩ | ⟨n, _, _, e⟩ <;> rw [e] at h
  · exact .inr (TL.numL_digits n c h)
  · rcases List.mem_cons.mp h with q | q
    · exact .inl q
    · exact .inr (TL.numL_digits n c q)
theorem itl_ne (i : Int) : itl i ≠ [] := by
  rcases itl_cases i with ⟨n, _, e⟩ | ⟨n, _, _, e⟩ <;> rw [e]
  · exact TL.numL_ne n
  · exact List.cons_ne_nil _ _
theorem itl_len {i : Int} {k : Nat} (hk : 0 < k) (h : i.natAbs < 10 ^ k) : (itl i).length ≤ k + 1 := by
  rcases itl_cases i with ⟨n, e1, e⟩ | ⟨n, _, e1, e⟩ <;> rw [e]
  · have := TL.numL_len (n := n) hk (by rw [e1] at h; simpa using h)
    omega
  · have := TL.numL_len (n := n) hk (by rw [e1] at h; simpa using h)
    simp
    omega
theorem itl_int {i : Int} (h : (itl i).length ≤ 4000) : intText? (SX.S (itl i)) = some i := by
  rcases itl_cases i with ⟨n, e1, e⟩ | ⟨n, _, e1, e⟩ <;> rw [e] at h ⊢ <;> subst e1
  · have q := intText_digits (x := SX.S (TL.numL n)) (TL.numL_digits n) (TL.numL_ne n) (by rw [SX.S_len]; omega)
    rw [q]
    show some ((NumText.digitsVal (TL.numL n) : Nat) : Int) = _
    rw [TL.numL_val]
  · have q := intText_neg (x := SX.S (45 :: TL.numL n)) rfl (TL.numL_digits n) (TL.numL_ne n) (by rw [SX.S_len]; omega)
    rw [q, TL.numL_val]
theorem numL_head {n : Nat} (h : 0 < n) : ∃ c r, TL.numL n = c :: r ∧ c ≠ 48 := by
  induction n using Nat.strongRecOn with
  | _ n ih =>
    by_cases q : n < 10
    · exact ⟨48 + n, [], TL.numL_lt q, by omega⟩
    · obtain ⟨c, r, e, hc⟩ := ih (n / 10) (by omega) (by omega)
      exact ⟨c, r ++ [48 + n % 10], by rw [TL.numL_step (by omega), e]; rfl, hc⟩
def pcl (p : Int × Int) : List Nat := itl p.2 ++ 113 :: itl p.1
def pc (p : Int × Int) : Str := SX.S (pcl p)
theorem q_S : (Str.ofString "q" : Str) = SX.S [113] := TL.ext_tl (by rw [TL.tl_ofString]; rfl)
theorem sp_S : (Str.ofString " " : Str) = SX.S [32] := TL.ext_tl (by rw [TL.tl_ofString]; rfl)
theorem o_S : (Str.ofString "0" : Str) = SX.S [48] := TL.ext_tl (by rw [TL.tl_ofString]; rfl)
theorem pc_eq (p : Int × Int) : (Str.ofString (toString p.2) ++ Str.ofString "q") ++ Str.ofString (toString p.1) = pc p := by
  rw [itl_S, itl_S, q_S, SX.S_cat, SX.S_cat]
  unfold pc pcl
  simp
theorem pc_eq0 (p : Int × Int) : ((Str.empty ++ Str.ofString (toString p.2)) ++ Str.ofString "q") ++ Str.ofString (toString p.1) = pc p := by
  rw [← pc_eq]
  have e : Str.empty ++ (Str.ofString (toString p.2) : Str) = Str.ofString (toString p.2) := TL.ext_tl (by rw [TL.tl_append]; rfl)
  rw [e]
def txt (r : Raw) : Str := if nzL r = [] then Str.ofString "0" else Txt.join (Str.ofString " ") ((nzL r).map pc)
theorem pcl_chars {p : Int × Int} {c : Nat} (h : c ∈ pcl p) : c = 45 ∨ (48 ≤ c ∧ c ≤ 57) ∨ c = 113 := by
  unfold pcl at h
  rcases List.mem_append.mp h with q | q
  · rcases itl_chars q with z | z
    · exact .inl z
    · exact .inr (.inl z)
  · rcases List.mem_cons.mp q with z | q
    · exact .inr (.inr z)
    · rcases itl_chars q with z | z
      · exact .inl z
      · exact .inr (.inl z)
theorem txt_join {r : Raw} (h : nzL r ≠ []) : txt r = SX.S (TL.joinL [32] ((nzL r).map pcl)) := by
  unfold txt
  rw [if_neg h, sp_S]
  have e : (nzL r).map pc = ((nzL r).map pcl).map SX.S := by rw [List.map_map]; rfl
  rw [e, SX.join_S]
theorem split_txt {r : Raw} (h : nzL r ≠ []) : Txt.split (txt r) (Str.ofString " ") = (nzL r).map pc := by
  rw [txt_join h, sp_S, SX.split_S (by simp) (by decide), SX.spl_join (by simpa using h)]
  · rw [List.map_map]; rfl
  · intro p hp
    obtain ⟨z, _, rfl⟩ := List.mem_map.mp hp
    intro hc
    rcases pcl_chars hc with q | q | q <;> omega
theorem split_pc (p : Int × Int) : Txt.split (pc p) (Str.ofString "q") = [SX.S (itl p.2), SX.S (itl p.1)] := by
  have nf : ∀ i : Int, 113 ∉ itl i := fun i h => by
    rcases itl_chars h with q | q <;> omega
  have e : pcl p = TL.joinL [113] [itl p.2, itl p.1] := by
    unfold pcl
    simp [TL.joinL]
  unfold pc
  rw [e, q_S, SX.split_S (by simp) (by decide), SX.spl_join (by simp)]
  · rfl
  · intro x hx
    rcases List.mem_cons.mp hx with z | z
    · rw [z]; exact nf _
    · rw [List.mem_singleton.mp z]; exact nf _
theorem joinL_len (S : List Nat) : ∀ l : List (List Nat), (TL.joinL S l).length ≤ (l.map (·.length)).sum + l.length * S.length
  | [] => by simp [TL.joinL]
  | [a] => by simp [TL.joinL]
  | a :: b :: l => by
    have ih := joinL_len S (b :: l)
    have e : TL.joinL S (a :: b :: l) = a ++ (S ++ TL.joinL S (b :: l)) := rfl
    rw [e]
    simp only [List.length_append, List.map_cons, List.sum_cons, List.length_cons, Nat.add_mul] at ih ⊢
    omega
/-- no text of entries is '0' -/
theorem txt_ne0 {r : Raw} (h : nzL r ≠ []) : txt r ≠ Str.ofString "0" := by
  rw [txt_join h, o_S]
  intro e
  have e2 := SX.S_inj e
  have hm : 113 ∈ TL.joinL [32] ((nzL r).map pcl) := by
    cases hz : nzL r with
    | nil => exact absurd hz h
    | cons p l =>
      have h1 : 113 ∈ pcl p := by unfold pcl; simp
      cases l with
      | nil => simpa [TL.joinL] using h1
      | cons q l =>
        show 113 ∈ pcl p ++ ([32] ++ TL.joinL [32] ((q :: l).map pcl))
        exact List.mem_append.mpr (.inl h1)
  rw [e2] at hm
  simp at hm
/-- bounds under which texts are made -/
structure TB (r : Raw) : Prop where
  lo : -100000 ≤ r.1 ∧ r.1 ≤ 100000
  len : r.2.length ≤ 100000
  nz : (nzL r).length ≤ 20000
  co : ∀ c ∈ r.2, c.natAbs < 2 ^ 600
theorem two600 : (2 : Nat) ^ 600 < 10 ^ 181 := by decide +kernel
theorem log600 {i : Int} (h : i.natAbs < 2 ^ 600) : i.natAbs.log2 < 1920 := by
  have := PySem.Flt.log2_lt_of (by decide) h
  omega
theorem logSmall {i : Int} (h : i.natAbs < 10000000) : i.natAbs.log2 < 1920 := log600 (Nat.lt_trans h (by decide +kernel))
theorem TB.mem {r : Raw} (b : TB r) {p : Int × Int} (h : p ∈ nzL r) : p.2.natAbs < 2 ^ 600 ∧ p.1.natAbs < 10000000 ∧ (itl p.2).length ≤ 182 ∧ (itl p.1).length ≤ 8 := by
  have hm : p ∈ rowE r.1 r.2 := (List.mem_filter.mp h).1
  obtain ⟨i, e1, e2⟩ := row_mem hm
  have hi : i < r.2.length := by
    rcases Nat.lt_or_ge i r.2.length with q | q
    · exact q
    · rw [List.getElem?_eq_none q] at e2; cases e2
  have h1 := b.co p.2 (List.mem_of_getElem? e2)
  have h2 : p.1.natAbs < 10000000 := by have := b.lo; have := b.len; omega
  exact ⟨h1, h2, itl_len (k := 181) (by decide) (Nat.lt_trans h1 two600), itl_len (k := 7) (by decide) h2⟩
theorem TB.piece {r : Raw} (b : TB r) {p : Int × Int} (h : p ∈ nzL r) : (pc p).length ≤ 191 := by
  obtain ⟨_, _, h1, h2⟩ := b.mem h
  unfold pc pcl
  rw [SX.S_len, List.length_append, List.length_cons]
  omega
theorem sum_le (l : List Nat) (m : Nat) (h : ∀ x ∈ l, x ≤ m) : l.sum ≤ l.length * m := by
  induction l with
  | nil => simp
  | cons a l ih =>
    have h1 := h a List.mem_cons_self
    have h2 := ih fun x hx => h x (List.mem_cons_of_mem _ hx)
    simp only [List.sum_cons, List.length_cons, Nat.add_mul]
    omega
theorem TB.total {r : Raw} (b : TB r) : (((nzL r).map pc).map (·.length)).sum + ((nzL r).map pc).length * 1 ≤ 4000000 := by
  have h := sum_le (((nzL r).map pc).map (·.length)) 191 (fun x hx => by
    obtain ⟨y, hy, rfl⟩ := List.mem_map.mp hx
    obtain ⟨p, hp, rfl⟩ := List.mem_map.mp hy
    exact b.piece hp)
  have := b.nz
  simp only [List.length_map] at h ⊢
  omega
theorem TB.txt_len {r : Raw} (b : TB r) : (txt r).length ≤ 4000000 := by
  by_cases h : nzL r = []
  · unfold txt
    rw [if_pos h, o_S, SX.S_len]
    decide
  · rw [txt_join h, SX.S_len]
    have h1 := joinL_len [32] ((nzL r).map pcl)
    have h2 := b.total
    have e : (((nzL r).map pcl).map (·.length)) = (((nzL r).map pc).map (·.length)) := by
      rw [List.map_map, List.map_map]
      apply List.map_congr_left
      intro p _
      simp only [Function.comp, pc, SX.S_len]
    rw [e] at h1
    simp only [List.length_map, List.length_cons, List.length_nil] at h1 h2
    omega
end Lau
end
section
/-! ## part D0 -/
set_option maxHeartbeats 4000000
namespace Lau
open PySem PySem.Spec PyProof.Rows L2
/-! how a raw laurent lies in the heap -/
def RawAt (K : PySem.W.Frag) (H : Hp) (p : Addr) (r : Raw) : Prop := ∃ t, SqT K H p [.int r.1, .ref t] ∧ SqT K H t (r.2.map V.int)
theorem RawAt.ext {K : PySem.W.Frag} {H H' : Hp} {p : Addr} {r : Raw} (h : RawAt K H p r) (e : Ext H H') : RawAt K H' p r := by
  obtain ⟨t, h1, h2⟩ := h
  exact ⟨t, h1.ext e, h2.ext e⟩
def LauAt (K : PySem.W.Frag) (H : Hp) (a : Addr) (r : Raw) : Prop := ∃ dx q, H a = some (.ins (LC K) dx [("_raw", .ref q)]) ∧ RawAt K H q r
theorem LauAt.ext {K : PySem.W.Frag} {H H' : Hp} {p : Addr} {r : Raw} (h : LauAt K H p r) (e : Ext H H') : LauAt K H' p r := by
  obtain ⟨dx, q, h1, h2⟩ := h
  exact ⟨dx, q, e _ _ h1, h2.ext e⟩
theorem raw_new {K : PySem.W.Frag} {H : Hp} {t p : Addr} {r : Raw} (ht : SqT K H t (r.2.map V.int)) (hp : H p = none) : RawAt K (upd H p (.tup [.int r.1, .ref t])) p r :=
  ⟨t, SqT.of upd_same, ht.ext (Ext.upd hp)⟩
section
variable {P : Program} {w : World} {K : PySem.W.Frag} {mg : Str → Option Value} {base : Heap}
/-- a def of the module by its body -/
theorem calF {x : Str} {i k : Nat} {N ps : List Str} {sp : Sp} (D : DefF K mg x i) (S : FnScope N ps (defScope (top i)))
    (hb : ∀ (kV doc pm : Value) (an : Option Addr) (cdv ct : Value) (us : List Value), us.length = ps.length → bindArgs (PySem.W.fnOf x x (defArgs (top i)) (defBody (top i)) (defScope (top i)) .none kV doc pm an cdv ct) ⟨us, []⟩ = pure (ps.zip us))
    (len : ∀ vs H Q E, sp vs H Q E → vs.length = ps.length)
    (hbody : ∀ (f : Addr) (cdv : Value) (A : Around) (outer : List Env) (s : Shared) (H : Hp) (vs : List V) (Q : VK) (E : XK), Room k (A.deeper (envOfC x (defScope (top i)) s.heap.objs.size f cdv)) → sp vs H Q E →
      ∃ t, PSs (cxOf CX0 P w K mg base N x (defScope (top i)) f cdv A outer s H E).nox (defBody (top i)) t ∧ t { nx := fun _ H' => Q .non H', rt := Q } (start N vs) H) : C8.Cal P w K mg base (k + 1) x sp [] := by
  obtain ⟨f, fd, F, hm⟩ := D
  refine ⟨f, fd, ps, [], F.ok S len (fun cdv A outer s H vs Q E hr h => ?_), hm, F.kp, F.bindsN hb, .nil⟩
  obtain ⟨t, h1, h2⟩ := hbody f cdv A outer s H vs Q E hr h
  exact ⟨t, PSs.nox h1, h2⟩
end
theorem lt_of_get {α : Type} {l : List α} {i : Nat} {x : α} (h : l[i]? = some x) : i < l.length := by
  rcases Nat.lt_or_ge i l.length with q | q
  · exact q
  · rw [List.getElem?_eq_none q] at h; cases h
theorem atI_int {row : List Int} {i : Nat} (h : i < row.length) : atI (row.map V.int) (i : Int) = some (.int (row.getD i 0)) := by
  refine atI_nat ?_
  rw [List.getElem?_map, List.getElem?_eq_getElem h, List.getD_eq_getElem?_getD, List.getElem?_eq_getElem h]
  rfl
/-- what holds behind a statement, told ahead of it -/
theorem letP {nx : L2.St → Hp → Prop} {G : Prop} (Post : L2.St → Hp → Prop) (hd : ∀ σ H, Post σ H → nx σ H) (body : (∀ σ H, Post σ H → nx σ H) → G) : G := body hd
theorem whileP {c : TT} {tb : TS} {D : Ends} {σ : L2.St} {H : Hp} (Post : L2.St → Hp → Prop) (hd : ∀ σ H, Post σ H → D.nx σ H) (body : (∀ σ H, Post σ H → D.nx σ H) → tWhile c tb D σ H) : tWhile c tb D σ H := body hd
theorem seqP {t u : TS} {D : Ends} {σ : L2.St} {H : Hp} (Post : L2.St → Hp → Prop) (hd : ∀ σ H, Post σ H → u D σ H) (h : (∀ σ H, Post σ H → u D σ H) → t { D with nx := u D } σ H) : tSeq t u D σ H := h hd
theorem nextI {nx : L2.St → Hp → Prop} {rt : VK} {bk ct : L2.St → Hp → Prop} {σ : L2.St} {H : Hp} (h : nx σ H) : tNext { nx := nx, rt := rt, bk := bk, ct := ct } σ H := h
theorem nxI {nx : L2.St → Hp → Prop} {rt : VK} {bk ct : L2.St → Hp → Prop} {σ : L2.St} {H : Hp} (h : nx σ H) : ({ nx := nx, rt := rt, bk := bk, ct := ct } : Ends).nx σ H := h
theorem nmI {i : Nat} {v : V} {nx : L2.St → Hp → Prop} {rt : VK} {bk ct : L2.St → Hp → Prop} {σ : L2.St} {H : Hp} (h : nx (σ.set i (some v)) H) : gName i v σ H ({ nx := nx, rt := rt, bk := bk, ct := ct } : Ends).nx := h
theorem iteY {c : Bool} {A B : Prop} (hc : c = true) (h : A) : if c = true then A else B := by
  rw [if_pos hc]
  exact h
theorem iteN {c : Bool} {A B : Prop} (hc : c = false) (h : B) : if c = true then A else B := by
  rw [hc, if_neg Bool.false_ne_true]
  exact h
theorem ix_row {K : PySem.W.Frag} {H : Hp} {a : Addr} {xs : List V} {i : Int} {v : V} {Q : VK} (h : SqL K H a xs ∨ SqT K H a xs) (e : atI xs i = some v) (q : Q v H) : rIxL K (.ref a) (.int i) H Q ∨ rIxT K (.ref a) (.int i) H Q := by
  rcases h with h | h
  · exact .inl ⟨a, xs, i, v, rfl, rfl, h, e, q⟩
  · exact .inr ⟨a, xs, i, v, rfl, rfl, h, e, q⟩
theorem map_cut (row : List Int) (a b : Nat) (hb : b ≤ row.length) (hab : a ≤ b) : cutV (row.map V.int) (some (a : Int)) (some (b : Int)) = ((row.take b).drop a).map V.int := by
  unfold cutV
  simp only [HT.sIx_nat, List.length_map]
  rw [Nat.min_eq_left hb, Nat.min_eq_left (Nat.le_trans hab hb), List.map_drop, List.map_take, List.drop_take]
/-- a slice of a list or of a tuple, laid as a tuple -/
theorem cut_tup {K : PySem.W.Frag} {H : Hp} {x : Addr} {row : List Int} {a b : Nat} {R : Addr → Hp → Prop} (h : SqL K H x (row.map V.int) ∨ SqT K H x (row.map V.int)) (hb : b ≤ row.length) (hab : a ≤ b)
    (q : ∀ t H', Ext H H' → SqT K H' t (((row.take b).drop a).map V.int) → R t H') :
    rSlL K (.ref x) (some (a : Int)) (some (b : Int)) H (fun v H1 => ∃ p ys, [v] = [V.ref p] ∧ ((SqL K H1 p ys ∧ ∀ l, H1 l = none → R l (upd H1 l (.tup ys))) ∨ (SqT K H1 p ys ∧ R p H1))) ∨
    rSlA K (.ref x) (some (a : Int)) (some (b : Int)) H (fun v H1 => ∃ p ys, [v] = [V.ref p] ∧ ((SqL K H1 p ys ∧ ∀ l, H1 l = none → R l (upd H1 l (.tup ys))) ∨ (SqT K H1 p ys ∧ R p H1))) := by
  have e := map_cut row a b hb hab
  rcases h with h | h
  · refine .inl ⟨x, _, rfl, h, fun p hp => ⟨p, _, rfl, .inl ⟨SqL.of upd_same, fun l hl => ?_⟩⟩⟩
    exact q l _ ((Ext.upd hp).upd' hl) (by rw [← e]; exact SqT.of upd_same)
  · refine .inr ⟨x, _, rfl, h, fun hw => ⟨x, _, rfl, .inr ⟨h, q x H Ext.rfl' ?_⟩⟩, fun _ p hp => ⟨p, _, rfl, .inr ⟨SqT.of upd_same, ?_⟩⟩⟩
    · rw [← e]
      unfold cutV
      rw [hw.1, hw.2, List.drop_zero, Nat.sub_zero, List.take_length]
      exact h
    · refine q p _ (Ext.upd hp) ?_
      rw [e]
      exact SqT.of upd_same
theorem ixN_ok {n : Nat} {k : Int} {j : Nat} (e : k = j) (h : j < n) : ixN n k = some j := by
  unfold ixN
  subst e
  rw [if_pos (by omega), if_pos (by omega)]
  simp
theorem zeros_tab (n : Nat) : List.replicate n (V.int 0) = (tab n fun _ => 0).map V.int := by
  rw [← tab_zero]
  simp
theorem set_tab (n : Nat) (f : Int → Int) (i : Nat) (v : Int) : ((tab n f).map V.int).set i (.int v) = (tab n fun j => if j = (i : Int) then v else f j).map V.int := by
  rw [← tab_set, List.map_set]
theorem len_tab (n : Nat) (f : Int → Int) : ((tab n f).map V.int).length = n := by rw [List.length_map, tab_len]
theorem at_tab {n : Nat} {f : Int → Int} {k : Int} {i : Nat} (e : k = i) (h : i < n) : atI ((tab n f).map V.int) k = some (.int (f i)) := by
  subst e
  exact atI_nat (by rw [List.getElem?_map, tab_get h]; rfl)
/-! data: rows of ints -/
theorem dp_ints {K : PySem.W.Frag} {H : Hp} : ∀ cs : List Int, DpAll K H (cs.map V.int) (cs.map PyData.int)
  | [] => .nil
  | c :: cs => .cons (.int c) (dp_ints cs)
theorem canLay_ints : ∀ cs : List Int, PyData.canLayAll0 (cs.map PyData.int) = true
  | [] => by simp [PyData.canLayAll0]
  | c :: cs => by simp only [List.map, PyData.canLayAll0, PyData.canLay0, canLay_ints cs, Bool.and_self]
theorem depth_ints : ∀ cs : List Int, PyData.depthAll (cs.map PyData.int) = 0
  | [] => rfl
  | c :: cs => by simp only [List.map, PyData.depthAll, PyData.depth, depth_ints cs, Nat.max_self]
theorem shaped_tup (cs : List Int) : SeqAt.shaped (.tuple (cs.map .int)) = true := by
  simp only [SeqAt.shaped, PyData.canLay0, canLay_ints, PyData.depth, depth_ints]
  decide
theorem shaped_lst (cs : List Int) : SeqAt.shaped (.list (cs.map .int)) = true := by
  simp only [SeqAt.shaped, PyData.canLay0, canLay_ints, PyData.depth, depth_ints]
  decide
theorem eqv_ints : ∀ xs ys : List Int, PyData.eqvAll (xs.map .int) (ys.map .int) = decide (xs = ys)
  | [], [] => by simp [PyData.eqvAll]
  | [], y :: ys => by simp [PyData.eqvAll]
  | x :: xs, [] => by simp [PyData.eqvAll]
  | x :: xs, y :: ys => by
    simp only [List.map, PyData.eqvAll, PyData.eqv, eqv_ints xs ys, List.cons.injEq]
    by_cases h : x = y <;> by_cases h2 : xs = ys <;> simp [h, h2]
section
variable {K : PySem.W.Frag} {H : Hp} {a b : Addr} {xs ys : List Int} {Q : VK}
theorem eqT (ha : SqT K H a (xs.map V.int)) (hb : SqT K H b (ys.map V.int)) (q : Q (.bl (decide (xs = ys))) H) : rEqD K (.ref a) (.ref b) H Q :=
  ⟨_, _, .tup ha (dp_ints xs), .tup hb (dp_ints ys), shaped_tup xs, shaped_tup ys, by simp only [PyData.eqv, eqv_ints]; exact q⟩
theorem neT (ha : SqT K H a (xs.map V.int)) (hb : SqT K H b (ys.map V.int)) (q : Q (.bl (!decide (xs = ys))) H) : rNeD K (.ref a) (.ref b) H Q :=
  ⟨_, _, .tup ha (dp_ints xs), .tup hb (dp_ints ys), shaped_tup xs, shaped_tup ys, by simp only [PyData.eqv, eqv_ints]; exact q⟩
theorem neL (ha : SqL K H a (xs.map V.int)) (hb : SqL K H b (ys.map V.int)) (q : Q (.bl (!decide (xs = ys))) H) : rNeD K (.ref a) (.ref b) H Q :=
  ⟨_, _, .lst ha (dp_ints xs), .lst hb (dp_ints ys), shaped_lst xs, shaped_lst ys, by simp only [PyData.eqv, eqv_ints]; exact q⟩
/-- t == (), t != () : the empty tuple has just been laid at p -/
theorem eqNil {p : Addr} (ha : SqT K H a (xs.map V.int)) (hp : H p = none) (q : Q (.bl (decide (xs = []))) (upd H p (.tup []))) : rEqD K (.ref a) (.ref p) (upd H p (.tup [])) Q :=
  eqT (ys := []) (ha.ext (Ext.upd hp)) (SqT.of upd_same) q
theorem neNil {p : Addr} (ha : SqT K H a (xs.map V.int)) (hp : H p = none) (q : Q (.bl (!decide (xs = []))) (upd H p (.tup []))) : rNeD K (.ref a) (.ref p) (upd H p (.tup [])) Q :=
  neT (ys := []) (ha.ext (Ext.upd hp)) (SqT.of upd_same) q
end
theorem extPut {H H' : Hp} {p : Addr} {o : HO} (e : Ext H H') (h : H p = none) : Ext H (upd H' p o) := fun a u q => by
  rw [upd_ne (ne_of_none q h)]
  exact e a u q
/-- [0 for turn in range(n)] -/
theorem zeros_in {n : Nat} {σ : L2.St} {H1 : Hp} {j : Nat} {R : Addr → Hp → Prop} (hn : n < 16777216) (h : ∀ D, H1 D = none → R D (upd H1 D (.lst (List.replicate n (.int 0))))) :
    ∀ D, H1 D = none → ∃ W : Nat → Nat → Hp → Prop, (∃ m, W 0 m (upd H1 D (.lst []))) ∧ ∀ i m H, W i m H →
      ((Itr 0 n).stop i H ∧ R D H) ∨ ((Itr 0 n).go i H ∧ ∃ Nx : Hp → Prop, (∀ H', Nx H' → ∃ m', m' < m ∧ W (i + 1) m' H') ∧ ∀ x H', (Itr 0 n).yld i H x H' → gName j x (wipe σ [j]) H' fun σ2 H2 => wipe σ2 [j] = wipe σ [j] ∧ tYes σ2 H2 fun b H3 =>
        if b = true then tC (.int 0) σ2 H3 fun y H4 => ∃ acc, H4 D = some (.lst acc) ∧ acc.length < sizeLine ∧ Nx (upd H4 D (.lst (acc ++ [y]))) else Nx H3) := fun D hD => by
  refine lc_range (fun i H => H = upd H1 D (.lst (List.replicate i (.int 0)))) rfl (fun i H hi e => ?_) (fun H e => by rw [e]; exact h D hD)
  subst e
  refine ⟨by simp [wipe], ?_⟩
  unfold tYes
  dsimp only
  rw [if_pos rfl]
  refine ⟨_, upd_same, by rw [List.length_replicate, sizeLine_eq]; omega, ?_⟩
  rw [List.replicate_succ']
  funext b
  by_cases q : b = D
  · rw [q, upd_same, upd_same]
  · rw [upd_ne q, upd_ne q, upd_ne q]
/-- for at, each in enumerate(t), t a row -/
theorem enum_for {K : PySem.W.Frag} {a : Addr} {xs : List Int} {i j : Nat} {tb : TS} {D : Ends} {σ : L2.St} {H : Hp} (Pv : Nat → L2.St → Hp → Prop) (h0 : Pv 0 σ H) (hG : ∀ t σ H, t ≤ xs.length → Pv t σ H → SqT K H a (xs.map V.int))
    (hs : ∀ (t : Nat) (c : Int) σ H H', xs[t]? = some c → Pv t σ H → Ext H H' → tb { D with nx := Pv (t + 1), ct := Pv (t + 1), bk := D.nx } ((σ.set i (some (.int t))).set j (some (.int c))) H') (hd : ∀ σ H, Pv xs.length σ H → D.nx σ H) :
    ∃ W : Nat → Nat → L2.St → Hp → Prop, (∃ m, W 0 m σ H) ∧ ∀ k m σ H, W k m σ H →
      ((IteT K a).stop k H ∧ D.nx σ H) ∨ ((IteT K a).go k H ∧ ∃ N : L2.St → Hp → Prop, (∀ σ' H', N σ' H' → ∃ m', m' < m ∧ W (k + 1) m' σ' H') ∧ ∀ x H', (IteT K a).yld k H x H' → gTup K 2 (gCons (gName i) (gCons (gName j) gNil)) x σ H' fun σ2 H2 => tb { D with nx := N, ct := N, bk := D.nx } σ2 H2) := by
  have hl : (xs.map V.int).length = xs.length := by simp
  refine for_it (walk_enumT (K := K) (a := a) (xs := xs.map V.int)) Pv h0 (fun k σ H hk p => hG k σ H (by omega) p) (fun k x σ H H' hk p y => ?_) (fun σ H p => hd σ H (by rw [← hl]; exact p))
  obtain ⟨T, u, v, rfl, hT, rfl, e1, e2⟩ := y
  have e1' : u = .int k := (Option.some.inj e1).symm
  subst e1'
  have e2' : (xs.map V.int)[k]? = some v := e2
  rw [List.getElem?_map] at e2'
  obtain ⟨c, hc, rfl⟩ := Option.map_eq_some_iff.mp e2'
  exact ⟨T, _, rfl, SqT.of upd_same, rfl, _, _, rfl, _, _, rfl, rfl, hs k c σ H _ hc p (Ext.upd hT)⟩
end Lau
end
section
/-! ## part D1 -/
set_option maxHeartbeats 4000000
namespace Lau
open PySem PySem.Spec PyProof.Rows L2
section
variable {P : Program} {w : World} {K : PySem.W.Frag} {mg : Str → Option Value} {base : Heap}
/-- trimmed -/
def spTrim (K : PySem.W.Frag) : Sp := fun vs H Q _ => ∃ (lo : Int) (a : Addr) (row : List Int), vs = [.int lo, .ref a] ∧ (SqL K H a (row.map V.int) ∨ SqT K H a (row.map V.int)) ∧
  ∀ (r : Raw) (p : Addr) (H' : Hp), Ext H H' → Nrm r → (∀ k, rat r k = rat (lo, row) k) → r.2.length ≤ row.length → RawAt K H' p r → Q (.ref p) H'
theorem scTrim : FnScope ["lowest", "row", "first", "last"] ["lowest", "row"] (defScope (top 8)) := C8.fnScope_by (by decide +kernel)
theorem cal_trimmed (T : Txt K mg) : C8.Cal P w K mg base 1 "trimmed" (spTrim K) [] := by
  refine calF (k := 0) (T.fn 0 rfl rfl) scTrim (fun _ _ _ _ _ _ us hl => match us, hl with | [_, _], _ => rfl) (fun vs H Q E h => by obtain ⟨_, _, _, rfl, _⟩ := h; rfl) (fun f cdv A outer s H vs Q E hr h => ?_)
  refine ⟨_, pss_cons (ps_par (i := 2) (j := 3) rfl scTrim.nd rfl rfl (by decide) rfl rfl (pa_cons pe_int (pa_cons (pe_callB call_len_seq (by rfl) (T.free 8) PySem.boot_len (pa_cons (pv 1) pa_nil)) pa_nil)) (by rfl))
    (pss_cons (ps_while PassesOwn.never (PW.pt (pw_and (pt_cmpR op_lt (pv 2) (pv 3) (nomark _)) (pw_and1 (pt_cmpR op_eq (pe_ix (IxR.or ix_list ix_tup) (pv 1) (pv 2) (fun _ _ => rfl)) pe_int (nomark _)))))
        (pss_one (ps_set (i := 2) scTrim.nd rfl (Or.inl rfl) (pe_op op_add (pv 2) pe_int))))
    (pss_cons (ps_while PassesOwn.never (PW.pt (pw_and (pt_cmpR op_lt (pv 2) (pv 3) (nomark _)) (pw_and1 (pt_cmpR op_eq (pe_ix (IxR.or ix_list ix_tup) (pv 1) (pe_op op_sub (pv 3) pe_int) (fun _ _ => rfl)) pe_int (nomark _)))))
        (pss_one (ps_set (i := 3) scTrim.nd rfl (Or.inl rfl) (pe_op op_sub (pv 3) pe_int))))
    (pss_one (ps_ret (pe_ifExp (pt_cmpR op_lt (pv 2) (pv 3) (nomark _))
      (pe_tup (pa_cons (pe_op op_add (pv 0) (pv 2)) (pa_cons (pe_callTy call_tuple_of (by rfl) (T.free 17) (by decide +kernel) (pa_cons (pe_slice (SlR.or sl_list sl_tupA) (pv 1) (po_some (pv 2)) (po_some (pv 3))) pa_nil)) pa_nil)))
      (pe_tup (pa_cons pe_int (pa_cons (pe_tup pa_nil) pa_nil)))))))), ?_⟩
  obtain ⟨lo, a, row, rfl, hrow, q⟩ := h
  have el : V.int ((row.map V.int).length : Int) = V.int row.length := by simp
  refine ⟨_, rfl, a, row.map V.int, rfl, hrow, _, _, rfl, ?_⟩
  refine whileP (fun σ H' => H' = H ∧ ∃ x : Nat, x ≤ row.length ∧ (∀ i, i < x → row.getD i 0 = 0) ∧ (x < row.length → row.getD x 0 ≠ 0) ∧ σ = [some (.int lo), some (.ref a), some (.int x), some (.int row.length)]) ?_ (fun hd => ?_)
  · rintro σ H' ⟨rfl, x, hx, hz, hnx, rfl⟩
    refine whileP (fun σ H'' => H'' = H' ∧ ∃ y : Nat, x ≤ y ∧ y ≤ row.length ∧ (∀ i, y ≤ i → row.getD i 0 = 0) ∧ (x < y → row.getD (y - 1) 0 ≠ 0) ∧ σ = [some (.int lo), some (.ref a), some (.int x), some (.int y)]) ?_ (fun hd => ?_)
    · rintro σ H'' ⟨rfl, y, h1, h2, hy, hny, rfl⟩
      refine ⟨_, rfl, _, rfl, _, _, rfl, rfl, _, rfl, ite2 (fun c => ?_) (fun c => ?_)⟩
      · have c' : x < y := by have := of_decide_eq_true c; omega
        refine ⟨_, rfl, _, rfl, _, _, rfl, rfl, _, rfl, _, rfl, _, rfl, _, rfl, _, rfl, ?_⟩
        refine cut_tup hrow h2 (Nat.le_of_lt c') fun t H1 e1 ht => ⟨by show 2 ≤ sizeLine; decide, fun p hp => ?_⟩
        have z0 : row.getD x 0 ≠ 0 := hnx (by omega)
        exact q (lo + x, (row.take y).drop x) p _ (e1.upd' hp) (trim_nrm c' h2 z0 (hny c')) (fun k => trim_rat (Nat.le_of_lt c') h2 hz hy k) (by simp; omega) (raw_new (r := (lo + x, (row.take y).drop x)) ht hp)
      · have c' : ¬ x < y := fun z => c (decide_eq_true (by omega))
        refine ⟨Nat.zero_le _, fun t ht => ⟨by show 2 ≤ sizeLine; decide, fun p hp => ?_⟩⟩
        have zz : ∀ i, row.getD i 0 = 0 := fun i => by
          by_cases q2 : i < x
          · exact hz i q2
          · exact hy i (by omega)
        exact q (0, []) p _ ((Ext.upd ht).upd' hp) nrm_nil (fun k => by rw [rat_nil, rat_zeros zz]) (Nat.zero_le _) (raw_new (r := (0, [])) (SqT.of upd_same) hp)
    · refine ⟨fun m σ H'' => H'' = H' ∧ x ≤ m ∧ m ≤ row.length ∧ (∀ i, m ≤ i → row.getD i 0 = 0) ∧ σ = [some (.int lo), some (.ref a), some (.int x), some (.int m)], ⟨row.length, rfl, hx, Nat.le_refl _, fun i hi => ?_, rfl⟩, ?_⟩
      · rw [List.getD_eq_getElem?_getD, List.getElem?_eq_none hi]; rfl
      rintro m σ H'' ⟨rfl, h1, h2, hy, rfl⟩
      refine ⟨_, rfl, _, rfl, _, _, rfl, rfl, _, rfl, ite2 (fun c => ?_) (fun c => ?_)⟩
      · have c' : x < m := by have := of_decide_eq_true c; omega
        have e1 : ((m : Int) - 1) = ((m - 1 : Nat) : Int) := by omega
        have e2 : atI (row.map V.int) ((m : Int) - 1) = some (.int (row.getD (m - 1) 0)) := by rw [e1]; exact atI_int (by omega)
        refine ⟨_, rfl, _, rfl, _, _, rfl, rfl, ix_row hrow e2 ⟨rfl, _, rfl, ite2 (fun z => ?_) (fun z => ?_)⟩⟩
        · have z' : row.getD (m - 1) 0 = 0 := by have := of_decide_eq_true z; simpa using this
          refine ⟨_, fun σ' H' h' => ⟨m - 1, by omega, h'⟩, _, rfl, _, _, rfl, rfl, rfl, by omega, by omega, fun i hi => ?_, ?_⟩
          · by_cases q2 : i = m - 1
            · rw [q2]; exact z'
            · exact hy i (by omega)
          · rw [← e1]; rfl
        · exact hd _ _ ⟨rfl, m, h1, h2, hy, fun _ e => z (decide_eq_true (by rw [e])), rfl⟩
      · have c' : ¬ x < m := fun z => c (decide_eq_true (by omega))
        exact iteF (hd _ _ ⟨rfl, m, h1, h2, hy, fun z => absurd z c', rfl⟩)
  · refine ⟨fun m σ H' => H' = H ∧ ∃ x : Nat, x ≤ row.length ∧ m = row.length - x ∧ (∀ i, i < x → row.getD i 0 = 0) ∧ σ = [some (.int lo), some (.ref a), some (.int x), some (.int row.length)], ⟨row.length, rfl, 0, Nat.zero_le _, rfl, fun i hi => absurd hi (Nat.not_lt_zero _), by rw [← el]; rfl⟩, ?_⟩
    rintro m σ H' ⟨rfl, x, hx, rfl, hz, rfl⟩
    refine ⟨_, rfl, _, rfl, _, _, rfl, rfl, _, rfl, ite2 (fun c => ?_) (fun c => ?_)⟩
    · have c' : x < row.length := by have := of_decide_eq_true c; omega
      refine ⟨_, rfl, _, rfl, ix_row hrow (atI_int c') ⟨rfl, _, rfl, ite2 (fun z => ?_) (fun z => ?_)⟩⟩
      · have z' : row.getD x 0 = 0 := by have := of_decide_eq_true z; simpa using this
        refine ⟨_, fun σ' H' h' => ⟨row.length - (x + 1), by omega, h'⟩, _, rfl, _, _, rfl, rfl, rfl, x + 1, by omega, rfl, fun i hi => ?_, rfl⟩
        by_cases q2 : i = x
        · rw [q2]; exact z'
        · exact hz i (by omega)
      · exact hd _ _ ⟨rfl, x, hx, hz, fun _ e => z (decide_eq_true (by rw [e])), rfl⟩
    · have c' : ¬ x < row.length := fun z => c (decide_eq_true (by omega))
      exact iteF (hd _ _ ⟨rfl, x, hx, hz, fun z => absurd z c', rfl⟩)
end
end Lau
end
section
/-! ## part D2 -/
set_option maxHeartbeats 4000000
namespace Lau
open PySem PySem.Spec PyProof.Rows L2
section
variable {P : Program} {w : World} {K : PySem.W.Frag} {mg : Str → Option Value} {base : Heap}
/-- raw_letter -/
def spRLet (K : PySem.W.Frag) : Sp := fun vs H Q _ => ∃ n : Int, vs = [.int n] ∧ ∀ p H', Ext H H' → RawAt K H' p (n, [1]) → Q (.ref p) H'
theorem scRLet : FnScope ["power"] ["power"] (defScope (top 9)) := C8.fnScope_by (by decide +kernel)
theorem cal_rlet (T : Txt K mg) : C8.Cal P w K mg base 1 "raw_letter" (spRLet K) [] := by
  refine calF (k := 0) (T.fn 1 rfl rfl) scRLet (fun _ _ _ _ _ _ us hl => match us, hl with | [_], _ => rfl) (fun vs H Q E h => by obtain ⟨_, rfl, _⟩ := h; rfl) (fun f cdv A outer s H vs Q E hr h => ?_)
  refine ⟨_, pss_one (ps_ret (pe_tup (pa_cons (pv 0) (pa_cons (pe_tup (pa_cons pe_int pa_nil)) pa_nil)))), ?_⟩
  obtain ⟨n, rfl, q⟩ := h
  refine ⟨_, rfl, by show 1 ≤ sizeLine; decide, fun t ht => ⟨by show 2 ≤ sizeLine; decide, fun p hp => ?_⟩⟩
  exact q p _ ((Ext.upd ht).upd' hp) (raw_new (r := (n, [1])) (SqT.of upd_same) hp)
/-- raw_whole -/
def spRWh (K : PySem.W.Frag) : Sp := fun vs H Q _ => ∃ n : Int, vs = [.int n] ∧ ∀ r p H', Ext H H' → Nrm r → (∀ k, rat r k = rat (0, [n]) k) → r.2.length ≤ 1 → RawAt K H' p r → Q (.ref p) H'
theorem scRWh : FnScope ["number"] ["number"] (defScope (top 10)) := C8.fnScope_by (by decide +kernel)
theorem cal_rwh (T : Txt K mg) : C8.Cal P w K mg base 2 "raw_whole" (spRWh K) [] := by
  refine calF (k := 1) (T.fn 2 rfl rfl) scRWh (fun _ _ _ _ _ _ us hl => match us, hl with | [_], _ => rfl) (fun vs H Q E h => by obtain ⟨_, rfl, _⟩ := h; rfl) (fun f cdv A outer s H vs Q E hr h => ?_)
  refine ⟨_, pss_one (ps_ret (C8.pe_c (cal_trimmed T) hr (by decide) (by rfl) (pa_cons pe_int (pa_cons (pe_tup (pa_cons (pv 0) pa_nil)) pa_nil)))), ?_⟩
  obtain ⟨n, rfl, q⟩ := h
  refine ⟨_, rfl, by show 1 ≤ sizeLine; decide, fun t ht => ⟨0, t, [n], rfl, .inr (SqT.of upd_same), fun r p H' e h1 h2 h3 h4 => ?_⟩⟩
  exact q r p H' ((Ext.upd ht).trans e) h1 h2 h3 h4
/-- raw_sum -/
def Big (r : Raw) : Prop := -1000000 ≤ r.1 ∧ r.1 ≤ 1000000 ∧ r.2.length ≤ 1000000
def spRSum (K : PySem.W.Frag) : Sp := fun vs H Q _ => ∃ (p q : Addr) (a b : Raw), vs = [.ref p, .ref q] ∧ RawAt K H p a ∧ RawAt K H q b ∧ Nrm a ∧ Nrm b ∧ Big a ∧ Big b ∧
  ∀ r x H', Ext H H' → Nrm r → (∀ k, rat r k = rat a k + rat b k) → RawAt K H' x r → Q (.ref x) H'
theorem scRSum : FnScope ["one", "other", "lowest", "many", "found", "at", "each", "spot", "turn"] ["one", "other"] (defScope (top 11)) := C8.fnScope_by (by decide +kernel)
theorem cal_rsum (T : Txt K mg) : C8.Cal P w K mg base 2 "raw_sum" (spRSum K) [] := by
  refine calF (k := 1) (T.fn 3 rfl rfl) scRSum (fun _ _ _ _ _ _ us hl => match us, hl with | [_, _], _ => rfl) (fun vs H Q E h => by obtain ⟨_, _, _, _, rfl, _⟩ := h; rfl) (fun f cdv A outer s H vs Q E hr h => ?_)
  refine ⟨_, pss_cons (ps_if (PW.pt (pw_or (pt_cmpR (op_eqD hr.units) (pe_ix ix_tup (pv 0) pe_int (fun _ _ => rfl)) (pe_tup pa_nil) (nomark _)) (pw_or1 (pt_cmpR (op_eqD hr.units) (pe_ix ix_tup (pv 1) pe_int (fun _ _ => rfl)) (pe_tup pa_nil) (nomark _)))))
      (pss_one (ps_ret (pe_ifExp (pt_cmpR (op_eqD hr.units) (pe_ix ix_tup (pv 0) pe_int (fun _ _ => rfl)) (pe_tup pa_nil) (nomark _)) (pv 1) (pv 0)))) pss_nil)
    (pss_cons (ps_set (i := 2) scRSum.nd rfl (Or.inl rfl) (pe_callB (call_min2 rfl) (by rfl) (T.free 11) (by decide +kernel) (pa_cons (pe_ix ix_tup (pv 0) pe_int (fun _ _ => rfl)) (pa_cons (pe_ix ix_tup (pv 1) pe_int (fun _ _ => rfl)) pa_nil))))
    (pss_cons (ps_set (i := 3) scRSum.nd rfl (Or.inl rfl) (pe_op op_sub (pe_callB (call_max2 rfl) (by rfl) (T.free 10) (by decide +kernel)
        (pa_cons (pe_op op_add (pe_ix ix_tup (pv 0) pe_int (fun _ _ => rfl)) (pe_callB call_len_seq (by rfl) (T.free 8) (by decide +kernel) (pa_cons (pe_ix ix_tup (pv 0) pe_int (fun _ _ => rfl)) pa_nil)))
        (pa_cons (pe_op op_add (pe_ix ix_tup (pv 1) pe_int (fun _ _ => rfl)) (pe_callB call_len_seq (by rfl) (T.free 8) (by decide +kernel) (pa_cons (pe_ix ix_tup (pv 1) pe_int (fun _ _ => rfl)) pa_nil))) pa_nil))) (pv 2)))
    (pss_cons (ps_setLc (i := 4) (own := [("turn", 8)]) (g := gName 8) (tt := tYes) rfl scRSum.nd rfl rfl (sw_true rfl rfl rfl (by decide +kernel)) (pi_range1 (by rfl) (T.free 12) (pa_cons (pv 3) pa_nil)) (blkOk_by (N := ["one", "other", "lowest", "many", "found", "at", "each", "spot", "turn"]) (sc := defScope (top 11)) (by decide +kernel))
        (fun _ _ _ _ _ => pg_name (i := 8) scRSum.nd rfl (Or.inl rfl)) (fun _ _ _ _ _ => pts_nil) (fun _ _ _ _ _ => pe_int))
    (pss_cons (ps_for PassesOwn.never rfl (pi_enumT (by rfl) (T.free 5) (pa_cons (pe_ix ix_tup (pv 0) pe_int (fun _ _ => rfl)) pa_nil)) (pg_tup rfl (pgs_cons (pg_name (i := 5) scRSum.nd rfl (Or.inl rfl)) (pgs_cons (pg_name (i := 6) scRSum.nd rfl (Or.inl rfl)) pgs_nil)))
        (pss_one (ps_asg (pv 6) (pg_sub (pv 4) (pe_op op_add (pe_op op_sub (pe_ix ix_tup (pv 0) pe_int (fun _ _ => rfl)) (pv 2)) (pv 5)) set_list))))
    (pss_cons (ps_for PassesOwn.never rfl (pi_enumT (by rfl) (T.free 5) (pa_cons (pe_ix ix_tup (pv 1) pe_int (fun _ _ => rfl)) pa_nil)) (pg_tup rfl (pgs_cons (pg_name (i := 5) scRSum.nd rfl (Or.inl rfl)) (pgs_cons (pg_name (i := 6) scRSum.nd rfl (Or.inl rfl)) pgs_nil)))
        (pss_cons (ps_set (i := 7) scRSum.nd rfl (Or.inl rfl) (pe_op op_add (pe_op op_sub (pe_ix ix_tup (pv 1) pe_int (fun _ _ => rfl)) (pv 2)) (pv 5)))
        (pss_one (ps_asg (pe_op op_add (pe_ix ix_list (pv 4) (pv 7) (fun _ _ => rfl)) (pv 6)) (pg_sub (pv 4) (pv 7) set_list)))))
    (pss_one (ps_ret (C8.pe_c (cal_trimmed T) hr (by decide) (by rfl) (pa_cons (pv 2) (pa_cons (pv 4) pa_nil)))))))))), ?_⟩
  obtain ⟨p, q, a, b, rfl, ⟨ta, hpa, hta⟩, ⟨tb, hqb, htb⟩, na, nb, ⟨ba1, ba2, ba3⟩, ⟨bb1, bb2, bb3⟩, Qk⟩ := h
  have z0 : ∀ {r : Raw}, r.2 = [] → ∀ k, rat r k = 0 := fun {r} h k => by obtain ⟨x, y⟩ := r; simp only at h; rw [h]; exact rat_nil _ _
  refine ⟨_, rfl, _, _, _, _, rfl, rfl, hpa, rfl, Nat.zero_le _, fun p1 hp1 => eqNil hta hp1 ⟨_, rfl, ite2 (fun c => ?_) (fun c => ?_)⟩⟩
  · have c' : a.2 = [] := of_decide_eq_true c
    have e1 : Ext H (upd H p1 (.tup [])) := Ext.upd hp1
    refine iteT ⟨_, rfl, _, _, _, _, rfl, rfl, hpa.ext e1, rfl, Nat.zero_le _, fun p2 hp2 => eqNil (hta.ext e1) hp2 ⟨_, rfl, iteY (decide_eq_true c') ⟨_, rfl, ?_⟩⟩⟩
    exact Qk b q _ (e1.upd' hp2) nb (fun k => by rw [z0 c']; omega) ⟨tb, (hqb.ext (e1.upd' hp2)), (htb.ext (e1.upd' hp2))⟩
  · have e1 : Ext H (upd H p1 (.tup [])) := Ext.upd hp1
    refine ⟨_, rfl, _, _, _, _, rfl, rfl, hqb.ext e1, rfl, Nat.zero_le _, fun p2 hp2 => eqNil (htb.ext e1) hp2 ⟨_, rfl, ite2 (fun c2 => ?_) (fun c2 => ?_)⟩⟩
    · have c2' : b.2 = [] := of_decide_eq_true c2
      have e2 := e1.upd' (o := .tup []) hp2
      refine ⟨_, rfl, _, _, _, _, rfl, rfl, hpa.ext e2, rfl, Nat.zero_le _, fun p3 hp3 => eqNil (hta.ext e2) hp3 ⟨_, rfl, iteN (decide_eq_false (fun z => c (decide_eq_true z))) ⟨_, rfl, ?_⟩⟩⟩
      exact Qk a p _ (e2.upd' hp3) na (fun k => by rw [z0 c2']; omega) ⟨ta, (hpa.ext (e2.upd' hp3)), (hta.ext (e2.upd' hp3))⟩
    · have e2 := e1.upd' (o := .tup []) hp2
      revert e2
      generalize upd (upd H p1 (.tup [])) p2 (.tup []) = G
      intro e2
      have la : (((a.2.map V.int).length : Nat) : Int) = a.2.length := by simp
      have lb : (((b.2.map V.int).length : Nat) : Int) = b.2.length := by simp
      refine letP (fun σ H' => H' = G ∧ ∃ (lw m : Int), lw ≤ a.1 ∧ lw ≤ b.1 ∧ a.1 + a.2.length ≤ lw + m ∧ b.1 + b.2.length ≤ lw + m ∧ 0 ≤ m ∧ m ≤ 5000000 ∧ σ = [some (.ref p), some (.ref q), some (.int lw), some (.int m), none, none, none, none, none]) ?_ (fun hd =>
        ⟨_, rfl, _, _, _, _, rfl, rfl, hpa.ext e2, rfl, _, rfl, _, _, _, _, rfl, rfl, hqb.ext e2, rfl, _, _, rfl, _, rfl, _, _, _, _, rfl, rfl, hpa.ext e2, rfl, _, rfl, _, _, _, _, rfl, rfl, hpa.ext e2, rfl, _, _, rfl, .inr (hta.ext e2), _, _, rfl, rfl,
          _, rfl, _, _, _, _, rfl, rfl, hqb.ext e2, rfl, _, rfl, _, _, _, _, rfl, rfl, hqb.ext e2, rfl, _, _, rfl, .inr (htb.ext e2), _, _, rfl, rfl, _, _, rfl, _, rfl, _, _, rfl, rfl, hd _ _ ⟨rfl, _, _, ?_, ?_, ?_, ?_, ?_, ?_, rfl⟩⟩)
      · rintro σ H' ⟨rfl, lw, m, l1, l2, l3, l4, l5, l6, rfl⟩
        refine ⟨_, rfl, _, rfl, by omega, by omega, zeros_in (n := m.toNat) (by omega) fun L hL => ?_⟩
        have hL0 : H L = none := by
          cases e : H L with
          | none => rfl
          | some o => rw [e2 _ _ e] at hL; cases hL
        have e3 : Ext H (upd H' L (.lst (List.replicate m.toNat (.int 0)))) := e2.upd' hL
        refine ⟨_, rfl, _, _, _, _, rfl, rfl, hpa.ext e3, rfl, ta, _, rfl, hta.ext e3, enum_for (xs := a.2) (fun t σ H' => Ext H H' ∧ H' L = some (.lst ((tab m.toNat fun j => rat (a.1, a.2.take t) (lw + j)).map V.int)) ∧
          ∃ v5 v6, σ = [some (.ref p), some (.ref q), some (.int lw), some (.int m), some (.ref L), v5, v6, none, none]) ⟨e3, ?_, none, none, rfl⟩ (fun t σ H' _ pv => hta.ext pv.1) ?_ ?_⟩
        · rw [upd_same, zeros_tab]
          congr 3
          exact tab_congr fun j _ => (rat_nil _ _).symm
        · rintro t c σ H1 H2 hc ⟨e4, hL4, v5, v6, rfl⟩ e5
          have ht := lt_of_get hc
          have e6 := e4.trans e5
          have hj : (a.1 - lw + (t : Int)) = ((a.1 - lw + t).toNat : Nat) := by omega
          refine ⟨_, rfl, _, rfl, _, rfl, _, _, _, _, rfl, rfl, hpa.ext e6, rfl, _, rfl, _, _, rfl, rfl, _, rfl, _, _, rfl, rfl, L, _, _, _, rfl, rfl, e5 _ _ hL4, ixN_ok hj (by rw [len_tab]; omega), ?_⟩
          refine ⟨extPut e6 hL0, ?_, _, _, rfl⟩
          rw [upd_same, set_tab]
          congr 3
          refine tab_congr fun j hj' => ?_
          rw [rat_take hc]
          by_cases z : (j : Int) = ((a.1 - lw + t).toNat : Nat)
          · rw [if_pos z, if_pos (by omega), rat_out (r := (a.1, a.2.take t)) (.inr (by show a.1 + ((a.2.take t).length : Nat) ≤ _; rw [List.length_take]; omega))]
            omega
          · rw [if_neg z, if_neg (by omega)]; omega
        · rintro σ H1 ⟨e4, hL4, v5, v6, rfl⟩
          rw [List.take_length] at hL4
          refine ⟨_, rfl, _, _, _, _, rfl, rfl, hqb.ext e4, rfl, tb, _, rfl, htb.ext e4, enum_for (xs := b.2) (fun t σ H' => Ext H H' ∧ H' L = some (.lst ((tab m.toNat fun j => rat a (lw + j) + rat (b.1, b.2.take t) (lw + j)).map V.int)) ∧
            ∃ v5 v6 v7, σ = [some (.ref p), some (.ref q), some (.int lw), some (.int m), some (.ref L), v5, v6, v7, none]) ⟨e4, ?_, _, _, _, rfl⟩ (fun t σ H' _ pv => htb.ext pv.1) ?_ ?_⟩
          · rw [hL4]
            congr 3
            exact tab_congr fun j _ => by rw [List.take_zero, rat_nil, Int.add_zero]
          · rintro t c σ H2 H3 hc ⟨e5, hL5, v5, v6, v7, rfl⟩ e6
            have ht := lt_of_get hc
            have e7 := e5.trans e6
            have hj : (b.1 - lw + (t : Int)) = ((b.1 - lw + t).toNat : Nat) := by omega
            refine ⟨_, rfl, _, _, _, _, rfl, rfl, hqb.ext e7, rfl, _, rfl, _, _, rfl, rfl, _, rfl, _, _, rfl, rfl, ?_⟩
            refine ⟨_, rfl, _, rfl, L, _, _, _, rfl, rfl, SqL.of (e6 _ _ hL5), at_tab hj (by omega), _, rfl, _, _, rfl, rfl, _, rfl, _, rfl, L, _, _, _, rfl, rfl, e6 _ _ hL5, ixN_ok hj (by rw [len_tab]; omega), ?_⟩
            refine ⟨extPut e7 hL0, ?_, _, _, _, rfl⟩
            rw [upd_same, set_tab]
            congr 3
            refine tab_congr fun j hj' => ?_
            rw [rat_take hc]
            by_cases z : (j : Int) = ((b.1 - lw + t).toNat : Nat)
            · rw [if_pos z, if_pos (by omega), z]; omega
            · rw [if_neg z, if_neg (by omega)]; omega
          · rintro σ H2 ⟨e5, hL5, v5, v6, v7, rfl⟩
            rw [List.take_length] at hL5
            refine ⟨_, rfl, _, rfl, lw, L, _, rfl, .inl (SqL.of hL5), fun r x H3 e6 nr hr _ hx => ?_⟩
            refine Qk r x H3 (e5.trans e6) nr (fun k => (hr k).trans (rat_tab (F := fun k => rat a k + rat b k) (fun k hk => ?_) k)) hx
            rw [rat_out (r := a) (by omega), rat_out (r := b) (by omega)]; rfl
      all_goals (try rw [la]) <;> (try rw [lb]) <;> (repeat' split) <;> omega
end
end Lau
end
section
/-! ## part D3 -/
set_option maxHeartbeats 4000000
namespace Lau
open PySem PySem.Spec PyProof.Rows L2
section
variable {P : Program} {w : World} {K : PySem.W.Frag} {mg : Str → Option Value} {base : Heap}
/-- raw_opposite -/
def spROpp (K : PySem.W.Frag) : Sp := fun vs H Q _ => ∃ (p : Addr) (a : Raw), vs = [.ref p] ∧ RawAt K H p a ∧ a.2.length ≤ 1000000 ∧ ∀ x H', Ext H H' → RawAt K H' x (a.1, a.2.map fun c => -c) → Q (.ref x) H'
theorem scROpp : FnScope ["one", "each"] ["one"] (defScope (top 12)) := C8.fnScope_by (by decide +kernel)
theorem cal_ropp (T : Txt K mg) : C8.Cal P w K mg base 1 "raw_opposite" (spROpp K) [] := by
  refine calF (k := 0) (T.fn 4 rfl rfl) scROpp (fun _ _ _ _ _ _ us hl => match us, hl with | [_], _ => rfl) (fun vs H Q E h => by obtain ⟨_, _, rfl, _⟩ := h; rfl) (fun f cdv A outer s H vs Q E hr h => ?_)
  refine ⟨_, pss_one (ps_ret (pe_tup (pa_cons (pe_ix ix_tup (pv 0) pe_int (fun _ _ => rfl)) (pa_cons (pe_callTy call_tuple_of (by rfl) (T.free 17) (by decide +kernel) (pa_cons
    (pe_lc (own := [("each", 1)]) (g := gName 1) (tt := tYes) rfl scROpp.nd (pi_tup (pe_ix ix_tup (pv 0) pe_int (fun _ _ => rfl))) (blkOk_by (N := ["one", "each"]) (sc := defScope (top 12)) (by decide +kernel))
      (fun _ _ _ _ _ => pg_name (i := 1) scROpp.nd rfl (Or.inl rfl)) (fun _ _ _ _ _ => pts_nil) (fun _ _ _ _ _ => pe_un un_neg (pv 1))) pa_nil)) pa_nil)))), ?_⟩
  obtain ⟨p, a, rfl, ⟨t, hp, ht⟩, hl, q⟩ := h
  refine ⟨_, rfl, _, _, _, _, rfl, rfl, hp, rfl, _, rfl, _, _, _, _, rfl, rfl, hp, rfl, t, rfl, ⟨_, ht⟩, fun D hD => lc_tup (xs := a.2.map V.int) (fun i H' => H' = upd H D (.lst ((a.2.take i).map fun c => .int (-c)))) rfl
    (fun i H' _ e => by rw [e]; exact ht.ext (Ext.upd hD)) (fun i x H' hx e => ?_) (fun H' e => ?_)⟩
  · subst e
    rw [List.getElem?_map] at hx
    obtain ⟨c, hc, rfl⟩ := Option.map_eq_some_iff.mp hx
    have hi := lt_of_get hc
    refine ⟨rfl, ?_⟩
    unfold tYes
    dsimp only
    rw [if_pos rfl]
    refine ⟨_, rfl, c, rfl, _, upd_same, by rw [List.length_map, List.length_take, sizeLine_eq]; omega, ?_⟩
    rw [List.take_add_one, hc]
    simp only [Option.toList_some, List.map_append, List.map_cons, List.map_nil]
    funext b
    by_cases qq : b = D
    · rw [qq, upd_same, upd_same]
    · rw [upd_ne qq, upd_ne qq, upd_ne qq]
  · subst e
    rw [List.length_map, List.take_length]
    refine ⟨D, _, rfl, .inl ⟨SqL.of upd_same, fun l hl' => ⟨by show 2 ≤ sizeLine; decide, fun r hr' => ?_⟩⟩⟩
    refine q r _ (((Ext.upd hD).upd' hl').upd' hr') (raw_new (r := (a.1, a.2.map fun c => -c)) (SqT.of ?_) hr')
    rw [upd_same, List.map_map]
    rfl
/-- raw_difference -/
def spRDif (K : PySem.W.Frag) : Sp := fun vs H Q _ => ∃ (p q : Addr) (a b : Raw), vs = [.ref p, .ref q] ∧ RawAt K H p a ∧ RawAt K H q b ∧ Nrm a ∧ Nrm b ∧ Big a ∧ Big b ∧
  ∀ r x H', Ext H H' → Nrm r → (∀ k, rat r k = rat a k - rat b k) → RawAt K H' x r → Q (.ref x) H'
theorem scRDif : FnScope ["one", "other"] ["one", "other"] (defScope (top 13)) := C8.fnScope_by (by decide +kernel)
theorem cal_rdif (T : Txt K mg) : C8.Cal P w K mg base 3 "raw_difference" (spRDif K) [] := by
  refine calF (k := 2) (T.fn 5 rfl rfl) scRDif (fun _ _ _ _ _ _ us hl => match us, hl with | [_, _], _ => rfl) (fun vs H Q E h => by obtain ⟨_, _, _, _, rfl, _⟩ := h; rfl) (fun f cdv A outer s H vs Q E hr h => ?_)
  refine ⟨_, pss_one (ps_ret (C8.pe_c (cal_rsum T) hr (by decide) (by rfl) (pa_cons (pv 0) (pa_cons (C8.pe_c (cal_ropp T) hr (by decide) (by rfl) (pa_cons (pv 1) pa_nil)) pa_nil)))), ?_⟩
  obtain ⟨p, q, a, b, rfl, ha, hb, na, nb, ba, bb, Qk⟩ := h
  refine ⟨_, rfl, _, rfl, q, b, rfl, hb, bb.2.2, fun x H1 e1 hx => ⟨p, x, a, _, rfl, ha.ext e1, hx, na, nrm_neg nb, ba, ⟨bb.1, bb.2.1, by rw [List.length_map]; exact bb.2.2⟩, fun r y H2 e2 nr hr2 hy => ?_⟩⟩
  exact Qk r y H2 (e1.trans e2) nr (fun k => by rw [hr2, rat_neg]; omega) hy
/-- raw_barred -/
def spRBar (K : PySem.W.Frag) : Sp := fun vs H Q _ => ∃ (p : Addr) (a : Raw), vs = [.ref p] ∧ RawAt K H p a ∧ Nrm a ∧ ∀ r x H', Ext H H' → Nrm r → (∀ k, rat r k = rat a (-k)) → RawAt K H' x r → Q (.ref x) H'
theorem scRBar : FnScope ["one"] ["one"] (defScope (top 15)) := C8.fnScope_by (by decide +kernel)
theorem cal_rbar (T : Txt K mg) : C8.Cal P w K mg base 1 "raw_barred" (spRBar K) [] := by
  refine calF (k := 0) (T.fn 7 rfl rfl) scRBar (fun _ _ _ _ _ _ us hl => match us, hl with | [_], _ => rfl) (fun vs H Q E h => by obtain ⟨_, _, rfl, _⟩ := h; rfl) (fun f cdv A outer s H vs Q E hr h => ?_)
  refine ⟨_, pss_one (ps_ret (pe_ifExp (pt_cmpR (op_neD hr.units) (pe_ix ix_tup (pv 0) pe_int (fun _ _ => rfl)) (pe_tup pa_nil) (nomark _))
    (pe_tup (pa_cons (pe_op op_sub (pe_op op_sub pe_int (pe_ix ix_tup (pv 0) pe_int (fun _ _ => rfl))) (pe_callB call_len_seq (by rfl) (T.free 8) (by decide +kernel) (pa_cons (pe_ix ix_tup (pv 0) pe_int (fun _ _ => rfl)) pa_nil)))
      (pa_cons (pe_revT (pe_ix ix_tup (pv 0) pe_int (fun _ _ => rfl))) pa_nil))) (pv 0))), ?_⟩
  obtain ⟨p, a, rfl, ⟨t, hp, ht⟩, na, q⟩ := h
  refine ⟨_, rfl, _, _, _, _, rfl, rfl, hp, rfl, Nat.zero_le _, fun p1 hp1 => neNil ht hp1 ⟨_, rfl, ?_⟩⟩
  have e1 : Ext H (upd H p1 (.tup [])) := Ext.upd hp1
  by_cases c : a.2 = []
  · refine iteN (by simp [c]) ⟨_, rfl, q a p _ e1 na (fun k => ?_) ⟨t, hp.ext e1, ht.ext e1⟩⟩
    obtain ⟨x, y⟩ := a
    simp only at c
    rw [c, rat_nil, rat_nil]
  · refine iteY (by simp [c]) ⟨_, rfl, _, _, _, _, rfl, rfl, hp.ext e1, rfl, _, _, rfl, rfl, _, rfl, _, _, _, _, rfl, rfl, hp.ext e1, rfl, _, _, rfl, .inr (ht.ext e1), _, _, rfl, rfl, _, rfl, _, _, _, _, rfl, rfl, hp.ext e1, rfl, _, _, rfl, ht.ext e1, fun r hr' => ⟨by show 2 ≤ sizeLine; decide, fun x hx => ?_⟩⟩
    refine q (1 - a.1 - a.2.length, a.2.reverse) x _ ((e1.upd' hr').upd' hx) (nrm_rev na c) (fun k => rat_rev k) ⟨r, SqT.of ?_, SqT.of ?_⟩
    · rw [upd_same]
      simp
    · rw [upd_ne (ne_of_none upd_same hx), upd_same]
      simp
/-- raw_coefficient -/
def spRCoef (K : PySem.W.Frag) : Sp := fun vs H Q _ => ∃ (p : Addr) (a : Raw) (k : Int), vs = [.ref p, .int k] ∧ RawAt K H p a ∧ Q (.int (rat a k)) H
theorem scRCoef : FnScope ["one", "power", "at"] ["one", "power"] (defScope (top 16)) := C8.fnScope_by (by decide +kernel)
theorem cal_rcoef (T : Txt K mg) : C8.Cal P w K mg base 1 "raw_coefficient" (spRCoef K) [] := by
  refine calF (k := 0) (T.fn 8 rfl rfl) scRCoef (fun _ _ _ _ _ _ us hl => match us, hl with | [_, _], _ => rfl) (fun vs H Q E h => by obtain ⟨_, _, _, rfl, _⟩ := h; rfl) (fun f cdv A outer s H vs Q E hr h => ?_)
  refine ⟨_, pss_cons (ps_set (i := 2) scRCoef.nd rfl (Or.inl rfl) (pe_op op_sub (pv 1) (pe_ix ix_tup (pv 0) pe_int (fun _ _ => rfl))))
    (pss_one (ps_ret (pe_ifExp (pt_chain op_le op_lt pe_int (pv 2) (pe_callB call_len_seq (by rfl) (T.free 8) (by decide +kernel) (pa_cons (pe_ix ix_tup (pv 0) pe_int (fun _ _ => rfl)) pa_nil)))
      (pe_ix ix_tup (pe_ix ix_tup (pv 0) pe_int (fun _ _ => rfl)) (pv 2) (fun _ _ => rfl)) pe_int))), ?_⟩
  obtain ⟨p, a, k, rfl, ⟨t, hp, ht⟩, q⟩ := h
  refine ⟨_, rfl, _, rfl, _, _, _, _, rfl, rfl, hp, rfl, _, _, rfl, rfl, ?_⟩
  have el : ((a.2.map V.int).length : Int) = a.2.length := by simp
  refine ⟨_, rfl, _, _, rfl, rfl, _, rfl, ?_⟩
  by_cases c1 : 0 ≤ k - a.1
  · refine iteY (decide_eq_true c1) ⟨_, rfl, _, _, _, _, rfl, rfl, hp, rfl, _, _, rfl, .inr ht, _, _, rfl, rfl, _, rfl, ?_⟩
    rw [el]
    by_cases c2 : k - a.1 < a.2.length
    · have hj : k - a.1 = ((k - a.1).toNat : Nat) := by omega
      have hat : atI (a.2.map V.int) (k - a.1) = some (.int (rat a k)) := by
        have h1 := atI_int (row := a.2) (i := (k - a.1).toNat) (by omega)
        rw [← hj] at h1
        rw [h1]
        unfold rat
        rw [if_pos (by omega)]
      exact iteY (decide_eq_true c2) ⟨_, rfl, _, _, _, _, rfl, rfl, hp, rfl, _, rfl, _, _, _, _, rfl, rfl, ht, hat, q⟩
    · refine iteN (decide_eq_false c2) ?_
      have z := rat_out (r := a) (k := k) (.inr (by omega))
      rw [z] at q
      exact q
  · refine iteN (decide_eq_false c1) ⟨_, rfl, ?_⟩
    have z := rat_out (r := a) (k := k) (.inl (by omega))
    rw [z] at q
    exact iteF q
/-- raw_highest -/
def spRHi (K : PySem.W.Frag) : Sp := fun vs H Q _ => ∃ (p : Addr) (a : Raw), vs = [.ref p] ∧ RawAt K H p a ∧ ∀ H', Ext H H' → Q (.int (if a.2 = [] then 0 else a.1 + a.2.length - 1)) H'
theorem scRHi : FnScope ["one"] ["one"] (defScope (top 17)) := C8.fnScope_by (by decide +kernel)
theorem cal_rhi (T : Txt K mg) : C8.Cal P w K mg base 1 "raw_highest" (spRHi K) [] := by
  refine calF (k := 0) (T.fn 9 rfl rfl) scRHi (fun _ _ _ _ _ _ us hl => match us, hl with | [_], _ => rfl) (fun vs H Q E h => by obtain ⟨_, _, rfl, _⟩ := h; rfl) (fun f cdv A outer s H vs Q E hr h => ?_)
  refine ⟨_, pss_one (ps_ret (pe_ifExp (pt_cmpR (op_neD hr.units) (pe_ix ix_tup (pv 0) pe_int (fun _ _ => rfl)) (pe_tup pa_nil) (nomark _))
    (pe_op op_sub (pe_op op_add (pe_ix ix_tup (pv 0) pe_int (fun _ _ => rfl)) (pe_callB call_len_seq (by rfl) (T.free 8) (by decide +kernel) (pa_cons (pe_ix ix_tup (pv 0) pe_int (fun _ _ => rfl)) pa_nil))) pe_int) pe_int)), ?_⟩
  obtain ⟨p, a, rfl, ⟨t, hp, ht⟩, q⟩ := h
  refine ⟨_, rfl, _, _, _, _, rfl, rfl, hp, rfl, Nat.zero_le _, fun p1 hp1 => neNil ht hp1 ⟨_, rfl, ?_⟩⟩
  have e1 : Ext H (upd H p1 (.tup [])) := Ext.upd hp1
  have q1 := q _ e1
  by_cases c : a.2 = []
  · rw [if_pos c] at q1
    exact iteN (by simp [c]) q1
  · rw [if_neg c] at q1
    refine iteY (by simp [c]) ⟨_, rfl, _, _, _, _, rfl, rfl, hp.ext e1, rfl, _, rfl, _, _, _, _, rfl, rfl, hp.ext e1, rfl, _, _, rfl, .inr (ht.ext e1), _, _, rfl, rfl, _, _, rfl, rfl, ?_⟩
    rw [List.length_map]
    exact q1
end
end Lau
end
section
/-! ## part D4 -/
set_option maxHeartbeats 4000000
namespace Lau
open PySem PySem.Spec PyProof.Rows L2
section
variable {P : Program} {w : World} {K : PySem.W.Frag} {mg : Str → Option Value} {base : Heap}
/-- raw_product -/
def Sm64 (r : Raw) : Prop := ∀ c ∈ r.2, -(2 ^ 64) < c ∧ c < 2 ^ 64
def spRProd (K : PySem.W.Frag) : Sp := fun vs H Q _ => ∃ (p q : Addr) (a b : Raw), vs = [.ref p, .ref q] ∧ RawAt K H p a ∧ RawAt K H q b ∧ a.2.length ≤ 1000000 ∧ b.2.length ≤ 1000000 ∧ Sm64 b ∧
  ∀ r x H', Ext H H' → Nrm r → (∀ k, rat r k = cv (rowE a.1 a.2) (rat b) k) → r.2.length ≤ a.2.length + b.2.length → RawAt K H' x r → Q (.ref x) H'
abbrev nmRProd : List Str := ["one", "other", "found", "at", "each", "place", "more", "turn"]
theorem scRProd : FnScope nmRProd ["one", "other"] (defScope (top 14)) := C8.fnScope_by (by decide +kernel)
theorem cal_rprod (T : Txt K mg) : C8.Cal P w K mg base 2 "raw_product" (spRProd K) [] := by
  refine calF (k := 1) (T.fn 6 rfl rfl) scRProd (fun _ _ _ _ _ _ us hl => match us, hl with | [_, _], _ => rfl) (fun vs H Q E h => by obtain ⟨_, _, _, _, rfl, _⟩ := h; rfl) (fun f cdv A outer s H vs Q E hr h => ?_)
  refine ⟨_, pss_cons (ps_if (PW.pt (pw_or (pt_cmpR (op_eqD hr.units) (pe_ix ix_tup (pv 0) pe_int (fun _ _ => rfl)) (pe_tup pa_nil) (nomark _)) (pw_or1 (pt_cmpR (op_eqD hr.units) (pe_ix ix_tup (pv 1) pe_int (fun _ _ => rfl)) (pe_tup pa_nil) (nomark _)))))
      (pss_one (ps_ret (pe_tup (pa_cons pe_int (pa_cons (pe_tup pa_nil) pa_nil))))) pss_nil)
    (pss_cons (ps_setLc (i := 2) (own := [("turn", 7)]) (g := gName 7) (tt := tYes) rfl scRProd.nd rfl rfl (sw_true rfl rfl rfl (by decide +kernel)) (pi_range1 (by rfl) (T.free 12) (pa_cons (pe_op op_sub (pe_op op_add
          (pe_callB call_len_seq (by rfl) (T.free 8) (by decide +kernel) (pa_cons (pe_ix ix_tup (pv 0) pe_int (fun _ _ => rfl)) pa_nil))
          (pe_callB call_len_seq (by rfl) (T.free 8) (by decide +kernel) (pa_cons (pe_ix ix_tup (pv 1) pe_int (fun _ _ => rfl)) pa_nil))) pe_int) pa_nil)) (blkOk_by (N := nmRProd) (sc := defScope (top 14)) (by decide +kernel))
        (fun _ _ _ _ _ => pg_name (i := 7) scRProd.nd rfl (Or.inl rfl)) (fun _ _ _ _ _ => pts_nil) (fun _ _ _ _ _ => pe_int))
    (pss_cons (ps_for PassesOwn.never rfl (pi_enumT (by rfl) (T.free 5) (pa_cons (pe_ix ix_tup (pv 0) pe_int (fun _ _ => rfl)) pa_nil)) (pg_tup rfl (pgs_cons (pg_name (i := 3) scRProd.nd rfl (Or.inl rfl)) (pgs_cons (pg_name (i := 4) scRProd.nd rfl (Or.inl rfl)) pgs_nil)))
        (pss_one (ps_for PassesOwn.never rfl (pi_enumT (by rfl) (T.free 5) (pa_cons (pe_ix ix_tup (pv 1) pe_int (fun _ _ => rfl)) pa_nil)) (pg_tup rfl (pgs_cons (pg_name (i := 5) scRProd.nd rfl (Or.inl rfl)) (pgs_cons (pg_name (i := 6) scRProd.nd rfl (Or.inl rfl)) pgs_nil)))
          (pss_one (ps_asg (pe_op op_add (pe_ix ix_list (pv 2) (pe_op op_add (pv 3) (pv 5)) (fun _ _ => rfl)) (pe_op op_mul (pv 4) (pv 6))) (pg_sub (pv 2) (pe_op op_add (pv 3) (pv 5)) set_list))))))
    (pss_one (ps_ret (C8.pe_c (cal_trimmed T) hr (by decide) (by rfl) (pa_cons (pe_op op_add (pe_ix ix_tup (pv 0) pe_int (fun _ _ => rfl)) (pe_ix ix_tup (pv 1) pe_int (fun _ _ => rfl))) (pa_cons (pv 2) pa_nil))))))), ?_⟩
  obtain ⟨p, q, a, b, rfl, ⟨ta, hpa, hta⟩, ⟨tb, hqb, htb⟩, la, lb, sb, Qk⟩ := h
  refine ⟨_, rfl, _, _, _, _, rfl, rfl, hpa, rfl, Nat.zero_le _, fun p1 hp1 => eqNil hta hp1 ⟨_, rfl, ite2 (fun c => ?_) (fun c => ?_)⟩⟩
  · have c' : a.2 = [] := of_decide_eq_true c
    have e1 : Ext H (upd H p1 (.tup [])) := Ext.upd hp1
    refine iteT ⟨Nat.zero_le _, fun t ht => ⟨by show 2 ≤ sizeLine; decide, fun x hx => ?_⟩⟩
    refine Qk (0, []) x _ ((e1.upd' ht).upd' hx) nrm_nil (fun k => ?_) (Nat.zero_le _) (raw_new (r := (0, [])) (SqT.of upd_same) hx)
    rw [c', rat_nil]
    rfl
  · have e1 : Ext H (upd H p1 (.tup [])) := Ext.upd hp1
    refine ⟨_, rfl, _, _, _, _, rfl, rfl, hqb.ext e1, rfl, Nat.zero_le _, fun p2 hp2 => eqNil (htb.ext e1) hp2 ⟨_, rfl, ite2 (fun c2 => ?_) (fun c2 => ?_)⟩⟩
    · have c2' : b.2 = [] := of_decide_eq_true c2
      have e2 := e1.upd' (o := .tup []) hp2
      refine ⟨Nat.zero_le _, fun t ht => ⟨by show 2 ≤ sizeLine; decide, fun x hx => ?_⟩⟩
      refine Qk (0, []) x _ ((e2.upd' ht).upd' hx) nrm_nil (fun k => ?_) (Nat.zero_le _) (raw_new (r := (0, [])) (SqT.of upd_same) hx)
      rw [rat_nil, cv_zero fun z _ => ?_]
      obtain ⟨u, v⟩ := b
      simp only at c2'
      rw [c2', rat_nil]
    · have e2 := e1.upd' (o := .tup []) hp2
      revert e2
      generalize upd (upd H p1 (.tup [])) p2 (.tup []) = G
      intro e2
      have ea : ((a.2.map V.int).length : Int) = a.2.length := by simp
      have eb : ((b.2.map V.int).length : Int) = b.2.length := by simp
      have la0 : 0 < a.2.length := by
        rcases Nat.eq_zero_or_pos a.2.length with z | z
        · exact absurd (decide_eq_true (List.eq_nil_of_length_eq_zero z)) c
        · exact z
      have lb0 : 0 < b.2.length := by
        rcases Nat.eq_zero_or_pos b.2.length with z | z
        · exact absurd (decide_eq_true (List.eq_nil_of_length_eq_zero z)) c2
        · exact z
      have en : ((a.2.map V.int).length : Int) + ((b.2.map V.int).length : Int) - 1 = ((a.2.length + b.2.length - 1 : Nat) : Int) := by rw [ea, eb]; omega
      generalize hn : a.2.length + b.2.length - 1 = n at en
      refine ⟨_, rfl, _, _, _, _, rfl, rfl, hpa.ext e2, rfl, _, _, rfl, .inr (hta.ext e2), _, rfl, _, _, _, _, rfl, rfl, hqb.ext e2, rfl, _, _, rfl, .inr (htb.ext e2), _, _, rfl, rfl, _, _, rfl, rfl, n, congrArg (fun z => [V.int z]) en, by omega, by omega, zeros_in (n := n) (by omega) fun L hL => ?_⟩
      have hL0 : H L = none := by
        cases e : H L with
        | none => rfl
        | some o => rw [e2 _ _ e] at hL; cases hL
      have e3 : Ext H (upd G L (.lst (List.replicate n (.int 0)))) := e2.upd' hL
      refine ⟨_, rfl, _, _, _, _, rfl, rfl, hpa.ext e3, rfl, ta, _, rfl, hta.ext e3, enum_for (xs := a.2) (fun t σ H' => Ext H H' ∧ H' L = some (.lst ((tab n fun j => cv (rowE a.1 (a.2.take t)) (rat b) (a.1 + b.1 + j)).map V.int)) ∧
        ∃ v3 v4 v5 v6, σ = [some (.ref p), some (.ref q), some (.ref L), v3, v4, v5, v6, none]) ⟨e3, ?_, none, none, none, none, rfl⟩ (fun t σ H' _ pv => hta.ext pv.1) ?_ ?_⟩
      · rw [upd_same, zeros_tab]
        rfl
      · rintro t c σ H1 H2 hc ⟨e4, hL4, v3, v4, v5, v6, rfl⟩ e5
        have ht := lt_of_get hc
        have e6 := e4.trans e5
        refine ⟨_, rfl, _, _, _, _, rfl, rfl, hqb.ext e6, rfl, tb, _, rfl, htb.ext e6, enum_for (xs := b.2) (fun u σ H' => Ext H H' ∧ H' L = some (.lst ((tab n fun j => cv (rowE a.1 (a.2.take t)) (rat b) (a.1 + b.1 + j) + c * rat (b.1, b.2.take u) (a.1 + b.1 + j - (a.1 + t))).map V.int)) ∧
          ∃ v5 v6, σ = [some (.ref p), some (.ref q), some (.ref L), some (.int t), some (.int c), v5, v6, none]) ⟨e6, ?_, _, _, rfl⟩ (fun u σ H' _ pv => htb.ext pv.1) ?_ ?_⟩
        · rw [e5 _ _ hL4]
          congr 3
          exact tab_congr fun j _ => by rw [List.take_zero, rat_nil, Int.mul_zero, Int.add_zero]
        · rintro u d σ H3 H4 hd ⟨e7, hL7, v5, v6, rfl⟩ e8
          have hu := lt_of_get hd
          have e9 := e7.trans e8
          have hj : ((t : Int) + (u : Int)) = ((t + u : Nat) : Int) := by omega
          refine ⟨_, rfl, _, rfl, _, rfl, _, _, rfl, rfl, L, _, _, _, rfl, rfl, SqL.of (e8 _ _ hL7), at_tab hj (by omega), _, rfl, _, rfl, _, _, rfl, rfl, .inr (sb d (List.mem_of_getElem? hd)), _, _, rfl, rfl, _, rfl, _, rfl, _, rfl, _, _, rfl, rfl, L, _, _, _, rfl, rfl, e8 _ _ hL7, ixN_ok hj (by rw [len_tab]; omega), ?_⟩
          refine ⟨extPut e9 hL0, ?_, _, _, rfl⟩
          rw [upd_same, set_tab]
          congr 3
          refine tab_congr fun j hj' => ?_
          rw [rat_take hd, Int.mul_add]
          by_cases z : (j : Int) = ((t + u : Nat) : Int)
          · rw [if_pos z, if_pos (by omega), z]; omega
          · rw [if_neg z, if_neg (by omega), Int.mul_zero]; omega
        · rintro σ H3 ⟨e7, hL7, v5, v6, rfl⟩
          rw [List.take_length] at hL7
          refine ⟨e7, ?_, _, _, _, _, rfl⟩
          rw [hL7]
          congr 3
          exact tab_congr fun j _ => (cv_take hc a.1 (rat b) _).symm
      · rintro σ H1 ⟨e4, hL4, v3, v4, v5, v6, rfl⟩
        rw [List.take_length] at hL4
        refine ⟨_, rfl, _, _, _, _, rfl, rfl, hpa.ext e4, rfl, _, rfl, _, _, _, _, rfl, rfl, hqb.ext e4, rfl, _, _, rfl, rfl, _, rfl, _, L, _, rfl, .inl (SqL.of hL4), fun r x H2 e5 nr hr hlen hx => ?_⟩
        rw [tab_len] at hlen
        refine Qk r x H2 (e4.trans e5) nr (fun k => (hr k).trans (rat_tab (F := fun k => cv (rowE a.1 a.2) (rat b) k) (fun k hk => ?_) k)) (by omega) hx
        refine cv_zero fun z hz => ?_
        obtain ⟨i, h1, h2⟩ := row_mem hz
        have hi := lt_of_get h2
        exact rat_out (by omega)
end
end Lau
end
section
/-! ## part D5 -/
set_option maxHeartbeats 4000000
namespace Lau
open PySem PySem.Spec PyProof.Rows L2
/-- [.. for at, each in enumerate(t) if ..], t a row -/
theorem enum_lc {K : PySem.W.Frag} {a : Addr} {xs : List Int} {i j : Nat} {tt : TT} {te : TE} {vs : List Nat} {σ : L2.St} {H1 : Hp} {D : Addr} {Qd : Hp → Prop} (Pv : Nat → Hp → Prop) (h0 : Pv 0 (upd H1 D (.lst []))) (hG : ∀ t H, t ≤ xs.length → Pv t H → SqT K H a (xs.map V.int))
    (hs : ∀ (t : Nat) (c : Int) H H', xs[t]? = some c → Pv t H → Ext H H' → wipe (((wipe σ vs).set i (some (.int t))).set j (some (.int c))) vs = wipe σ vs ∧ tt (((wipe σ vs).set i (some (.int t))).set j (some (.int c))) H' fun b H3 =>
      if b = true then te (((wipe σ vs).set i (some (.int t))).set j (some (.int c))) H3 fun y H4 => ∃ acc, H4 D = some (.lst acc) ∧ acc.length < sizeLine ∧ Pv (t + 1) (upd H4 D (.lst (acc ++ [y]))) else Pv (t + 1) H3) (hd : ∀ H, Pv xs.length H → Qd H) :
    ∃ W : Nat → Nat → Hp → Prop, (∃ m, W 0 m (upd H1 D (.lst []))) ∧ ∀ i' m H, W i' m H →
      ((IteT K a).stop i' H ∧ Qd H) ∨ ((IteT K a).go i' H ∧ ∃ Nx : Hp → Prop, (∀ H', Nx H' → ∃ m', m' < m ∧ W (i' + 1) m' H') ∧ ∀ x H', (IteT K a).yld i' H x H' → gTup K 2 (gCons (gName i) (gCons (gName j) gNil)) x (wipe σ vs) H' fun σ2 H2 => wipe σ2 vs = wipe σ vs ∧ tt σ2 H2 fun b H3 =>
        if b = true then te σ2 H3 fun y H4 => ∃ acc, H4 D = some (.lst acc) ∧ acc.length < sizeLine ∧ Nx (upd H4 D (.lst (acc ++ [y]))) else Nx H3) := by
  have hl : (xs.map V.int).length = xs.length := by simp
  refine lc_it (walk_enumT (K := K) (a := a) (xs := xs.map V.int)) Pv h0 (fun k H hk p => hG k H (by omega) p) (fun k x H H' hk p y => ?_) (fun H p => hd H (by rw [← hl]; exact p))
  obtain ⟨T, u, v, rfl, hT, rfl, e1, e2⟩ := y
  have e1' : u = .int k := (Option.some.inj e1).symm
  subst e1'
  have e2' : (xs.map V.int)[k]? = some v := e2
  rw [List.getElem?_map] at e2'
  obtain ⟨c, hc, rfl⟩ := Option.map_eq_some_iff.mp e2'
  exact ⟨T, _, rfl, SqT.of upd_same, rfl, _, _, rfl, _, _, rfl, rfl, hs k c H _ hc p (Ext.upd hT)⟩
/-! lists of texts as data -/
theorem dp_strs {K : PySem.W.Frag} {H : Hp} : ∀ l : List Str, DpAll K H (l.map V.str) (l.map PyData.str)
  | [] => .nil
  | c :: cs => .cons (.str c) (dp_strs cs)
theorem canLay_strs : ∀ l : List Str, (∀ x ∈ l, PyData.strOk x = true) → PyData.canLayAll0 (l.map PyData.str) = true
  | [], _ => by simp [PyData.canLayAll0]
  | c :: cs, h => by simp only [List.map, PyData.canLayAll0, PyData.canLay0, canLay_strs cs (fun x hx => h x (List.mem_cons_of_mem _ hx)), h c List.mem_cons_self, Bool.and_self]
theorem depth_strs : ∀ l : List Str, PyData.depthAll (l.map PyData.str) = 0
  | [] => rfl
  | c :: cs => by simp only [List.map, PyData.depthAll, PyData.depth, depth_strs cs, Nat.max_self]
theorem neStrs {K : PySem.W.Frag} {H : Hp} {a p : Addr} {l : List Str} {Q : VK} (ok : ∀ x ∈ l, PyData.strOk x = true) (ha : SqL K H a (l.map V.str)) (hp : H p = none) (q : Q (.bl (!decide (l = []))) (upd H p (.lst []))) : rNeD K (.ref a) (.ref p) (upd H p (.lst [])) Q := by
  refine ⟨.list (l.map .str), .list [], .lst (ha.ext (Ext.upd hp)) (dp_strs l), .lst (SqL.of upd_same) .nil, ?_, by decide, ?_⟩
  · simp only [SeqAt.shaped, PyData.canLay0, canLay_strs l ok, PyData.depth, depth_strs]
    decide
  · have e : PyData.eqv (.list (l.map .str)) (.list []) = decide (l = []) := by
      cases l <;> simp [PyData.eqv, PyData.eqvAll]
    rw [e]
    exact q
theorem strOk_pc (p : Int × Int) : PyData.strOk (pc p) = true := by
  unfold PyData.strOk
  rw [← Array.all_toList, List.all_eq_true]
  intro c hc
  have hc' : c ∈ pcl p := hc
  rcases pcl_chars hc' with q | q | q <;> simp <;> omega
theorem nz_take {lo : Int} {cs : List Int} {t : Nat} {c : Int} (h : cs[t]? = some c) : nzE (rowE lo (cs.take (t + 1))) = if c = 0 then nzE (rowE lo (cs.take t)) else nzE (rowE lo (cs.take t)) ++ [(lo + t, c)] := by
  rw [row_take h]
  unfold nzE
  rw [List.filter_append]
  by_cases z : c = 0
  · rw [if_pos z]; simp [z]
  · rw [if_neg z]; simp [z]
section
variable {P : Program} {w : World} {K : PySem.W.Frag} {mg : Str → Option Value} {base : Heap}
/-- raw_text -/
def spRText (K : PySem.W.Frag) : Sp := fun vs H Q _ => ∃ (p : Addr) (r : Raw), vs = [.ref p] ∧ RawAt K H p r ∧ TB r ∧ ∀ H', Ext H H' → Q (.str (txt r)) H'
abbrev nmRText : List Str := ["one", "pieces", "at", "each"]
theorem scRText : FnScope nmRText ["one"] (defScope (top 18)) := C8.fnScope_by (by decide +kernel)
def tePiece (K : PySem.W.Frag) : TE := fun σ H Q => tJs [tFmt (tVar 3), tC (.str "q"), tFmt (tOp (rI0 fun i j => .int (i + j)) (tOp (rIxT K) (tVar 0) (tC (.int 0))) (tVar 2))] Str.empty σ H fun out H1 => Q (.str out) H1
theorem cal_rtext (T : Txt K mg) : C8.Cal P w K mg base 1 "raw_text" (spRText K) [] := by
  refine calF (k := 0) (T.fn 10 rfl rfl) scRText (fun _ _ _ _ _ _ us hl => match us, hl with | [_], _ => rfl) (fun vs H Q E h => by obtain ⟨_, _, rfl, _⟩ := h; rfl) (fun f cdv A outer s H vs Q E hr h => ?_)
  refine ⟨_, pss_cons (ps_setLc (i := 1) (own := [("at", 2), ("each", 3)]) (g := gTup K 2 (gCons (gName 2) (gCons (gName 3) gNil))) (tt := tTest (tOp rNe (tVar 3) (tC (.int 0)))) (te := tePiece K) rfl scRText.nd rfl rfl (sw_true rfl rfl rfl (by decide +kernel)) (pi_enumT (by rfl) (T.free 5) (pa_cons (pe_ix ix_tup (pv 0) pe_int (fun _ _ => rfl)) pa_nil)) (blkOk_by (N := nmRText) (sc := defScope (top 18)) (by decide +kernel))
        (fun _ _ _ _ _ => pg_tup rfl (pgs_cons (pg_name (i := 2) scRText.nd rfl (Or.inl rfl)) (pgs_cons (pg_name (i := 3) scRText.nd rfl (Or.inl rfl)) pgs_nil))) (fun _ _ _ _ _ => pts_one (pt_cmpR op_ne (pv 3) pe_int (nomark _)))
        (fun _ _ _ _ _ => pe_joined (.cons (pe_fmt (pv 3)) (.cons pe_str (.cons (pe_fmt (pe_op op_add (pe_ix (r := rIxT K) ix_tup (pv 0) pe_int (fun _ _ => rfl)) (pv 2))) .nil)))))
    (pss_one (ps_ret (pe_ifExp (pt_cmpR (op_neD hr.units) (pv 1) (pe_lst pa_nil) (nomark _)) (pe_join pe_str (pv 1)) pe_str))), ?_⟩
  obtain ⟨p, r, rfl, ⟨t, hp, ht⟩, b, Qk⟩ := h
  refine ⟨_, rfl, _, _, _, _, rfl, rfl, hp, rfl, t, _, rfl, ht, fun D hD => enum_lc (xs := r.2) (i := 2) (j := 3) (vs := [2, 3]) (tt := tTest (tOp rNe (tVar 3) (tC (.int 0)))) (te := tePiece K) (fun k H' => Ext H H' ∧ H' D = some (.lst (((nzE (rowE r.1 (r.2.take k))).map pc).map V.str))) ⟨Ext.upd hD, upd_same⟩ (fun k H' _ pv => ht.ext pv.1) (fun k c H1 H2 hc pv e2 => ?_) (fun H1 pv => ?_)⟩
  · obtain ⟨e1, hD1⟩ := pv
    have e3 := e1.trans e2
    have hk := lt_of_get hc
    have hbl := b.len
    have hlen : (nzE (rowE r.1 (r.2.take k))).length ≤ 100000 := by
      have h1 := len_nz (rowE r.1 (r.2.take k))
      rw [row_len, List.length_take] at h1
      omega
    refine ⟨rfl, _, rfl, rfl, _, rfl, ?_⟩
    by_cases z : c = 0
    · refine iteN (by simp [z]) ⟨e3, ?_⟩
      rw [nz_take hc, if_pos z]
      exact e2 _ _ hD1
    · have hm : (r.1 + (k : Int), c) ∈ nzL r := nzL_mem.mpr (by rw [rat_of hc]; exact ⟨z, rfl⟩)
      obtain ⟨b1, b2, b3, b4⟩ := b.mem hm
      have l1 : (Str.ofString (toString c) : Str).length ≤ 182 := by rw [itl_S, SX.S_len]; exact b3
      have l2 : (Str.ofString (toString (r.1 + (k : Int))) : Str).length ≤ 8 := by rw [itl_S, SX.S_len]; exact b4
      have la : ∀ x y : Str, (x ++ y).length = x.length + y.length := fun x y => by rw [TL.len_tl, TL.tl_append, List.length_append, ← TL.len_tl, ← TL.len_tl]
      have le : (Str.empty : Str).length = 0 := rfl
      have lq : (Str.ofString "q" : Str).length = 1 := by rw [q_S, SX.S_len]; rfl
      refine iteY (by simp [z]) ⟨_, rfl, .inr ⟨c, rfl, log600 b1, _, rfl, by rw [la, le, sizeLine_eq]; omega, _, rfl, by rw [la, la, le, lq, sizeLine_eq]; omega, _, rfl, _, _, _, _, rfl, rfl, hp.ext e3, rfl, _, rfl, _, _, rfl, rfl, .inr ⟨_, rfl, logSmall b2, _, rfl, by rw [la, la, la, le, lq, sizeLine_eq]; omega, _, e2 _ _ hD1, by rw [List.length_map, List.length_map, sizeLine_eq]; omega, extPut e3 hD, ?_⟩⟩⟩
      rw [upd_same, nz_take hc, if_neg z]
      simp only [List.map_append, List.map_cons, List.map_nil]
      rw [← pc_eq0]
  · obtain ⟨e1, hD1⟩ := pv
    rw [List.take_length] at hD1
    refine ⟨_, rfl, by show 0 ≤ sizeLine; exact Nat.zero_le _, fun p1 hp1 => neStrs (l := (nzL r).map pc) (fun x hx => ?_) (SqL.of hD1) hp1 ⟨_, rfl, ?_⟩⟩
    · obtain ⟨z, _, rfl⟩ := List.mem_map.mp hx
      exact strOk_pc z
    · have q := Qk _ (e1.upd' (o := .lst []) hp1)
      by_cases z : nzL r = []
      · refine iteN (by simp [z]) ?_
        unfold txt at q
        rw [if_pos z] at q
        exact q
      · refine iteY (by simp [z]) ⟨⟨_, rfl⟩, _, rfl, _, D, (nzL r).map pc, rfl, rfl, .inl (SqL.of (by rw [upd_ne (ne_of_none hD1 hp1)]; exact hD1)), ?_, ?_⟩
        · have := b.total
          have lsp : (Str.ofString " " : Str).length = 1 := by rw [sp_S, SX.S_len]; rfl
          rw [lsp]
          omega
        · unfold txt at q
          rw [if_neg z] at q
          exact q
end
end Lau
end
section
/-! ## part D6 -/
set_option maxHeartbeats 4000000
namespace Lau
open PySem PySem.Spec PyProof.Rows L2
theorem m_S : (Str.ofString "-" : Str) = SX.S [45] := TL.ext_tl (by rw [TL.tl_ofString]; rfl)
theorem e_S : (Str.ofString "" : Str) = SX.S [] := TL.ext_tl (by rw [TL.tl_ofString]; rfl)
theorem dig_S : (Str.ofString "0123456789" : Str) = SX.S [48, 49, 50, 51, 52, 53, 54, 55, 56, 57] := TL.ext_tl (by rw [TL.tl_ofString]; rfl)
theorem S_ne {a b : List Nat} (h : a ≠ b) : V.str (SX.S a) ≠ V.str (SX.S b) := fun e => h (SX.S_inj (by cases e; rfl))
section
variable {P : Program} {w : World} {K : PySem.W.Frag} {mg : Str → Option Value} {base : Heap}
/-- whole_in, at the text of an int -/
def spWIn : Sp := fun vs H Q _ => ∃ i : Int, vs = [.str (SX.S (itl i))] ∧ (itl i).length ≤ 600 ∧ ∀ H', Ext H H' → Q (.int i) H'
abbrev nmWIn : List Str := ["text", "digits", "sign"]
theorem scWIn : FnScope nmWIn ["text"] (defScope (top 19)) := C8.fnScope_by (by decide +kernel)
theorem cal_win (T : Txt K mg) : C8.Cal P w K mg base 1 "whole_in" spWIn [] := by
  refine calF (k := 0) (T.fn 11 rfl rfl) scWIn (fun _ _ _ _ _ _ us hl => match us, hl with | [_], _ => rfl) (fun vs H Q E h => by obtain ⟨_, rfl, _⟩ := h; rfl) (fun f cdv A outer s H vs Q E hr h => ?_)
  refine ⟨_, pss_cons (ps_set (i := 1) scWIn.nd rfl (Or.inl rfl) (pe_ifExp (pt_cmpR op_eq (pe_slice C8.sl_txt (pv 0) po_none (po_some pe_int)) pe_str (nomark _)) (pe_slice C8.sl_txt (pv 0) (po_some pe_int) po_none) (pv 0)))
    (pss_cons (ps_if (PW.pt (pw_or (pt_cmpR op_eq (pv 1) pe_str (nomark _)) (pw_or (pt_cmpR op_gt (pe_callB call_len_str (by rfl) (T.free 8) (by decide +kernel) (pa_cons (pv 1) pa_nil)) pe_int (nomark _))
        (pw_or1 (pt_cmpR (op_neD hr.units) (pe_lc (own := [("sign", 2)]) (g := gName 2) (tt := tTest (tOp (fun x y H Q => ∃ (c : Nat) (z : Str), x = .str ⟨#[c]⟩ ∧ y = .str z ∧ Q (.bl (!decide (c ∈ z.cps.toList))) H) (tVar 2) (tC (.str "0123456789")))) (te := tVar 2) rfl scWIn.nd (pi_str (pv 1)) (blkOk_by (N := nmWIn) (sc := defScope (top 19)) (by decide +kernel))
          (fun _ _ _ _ _ => pg_name (i := 2) scWIn.nd rfl (Or.inl rfl)) (fun _ _ _ _ _ => pts_one (pt_cmpR op_notIn_sign (pv 2) pe_str rfl)) (fun _ _ _ _ _ => pv 2)) (pe_lst pa_nil) (nomark _))))))
      (pss_one (ps_ret pe_non)) pss_nil)
    (pss_cons (ps_if (PW.pt (pw_and (pt_cmpR op_eq (pe_ix ix_str (pv 1) pe_int (fun _ _ => rfl)) pe_str (nomark _)) (pw_and1 (pt_cmpR op_ne (pv 0) pe_str (nomark _)))))
      (pss_one (ps_ret pe_non)) pss_nil)
    (pss_one (ps_ret (pe_callTy call_int_str (by rfl) (T.free 6) (by decide +kernel) (pa_cons (pv 0) pa_nil)))))), ?_⟩
  obtain ⟨i, rfl, hl, Qk⟩ := h
  have hz : (SX.S (itl i)).length ≤ sizeLine := by rw [SX.S_len, sizeLine_eq]; omega
  obtain ⟨n, hn0, hnl, hcase⟩ : ∃ n : Nat, (n = 0 → itl i = [48]) ∧ (TL.numL n).length ≤ 600 ∧ (itl i = TL.numL n ∨ itl i = 45 :: TL.numL n) := by
    rcases itl_cases i with ⟨n, e1, e⟩ | ⟨n, h0, e1, e⟩
    · refine ⟨n, fun z => ?_, by rw [← e]; exact hl, .inl e⟩
      rw [e, z]
      rfl
    · refine ⟨n, fun z => absurd z (by omega), ?_, .inr e⟩
      rw [e] at hl
      simp at hl
      omega
  refine seqP (fun σ H' => H' = H ∧ σ = [some (.str (SX.S (itl i))), some (.str (SX.S (TL.numL n))), none]) ?_ (fun hd => ⟨_, rfl, _, rfl, _, rfl, hz, rfl, _, rfl, ?_⟩)
  · rintro σ H' ⟨rfl, rfl⟩
    have dne : TL.numL n ≠ [] := TL.numL_ne n
    have hzd : (SX.S (TL.numL n)).length ≤ sizeLine := by rw [SX.S_len, sizeLine_eq]; omega
    refine ⟨_, rfl, rfl, _, rfl, iteN (decide_eq_false ?_) ⟨_, rfl, _, rfl, hzd, _, _, rfl, rfl, _, rfl, iteN (decide_eq_false ?_) ?_⟩⟩
    · rw [e_S]
      exact S_ne dne
    · rw [SX.S_len]
      omega
    · refine ⟨_, rfl, _, rfl, fun D hD => lc_it (walk_str (z := SX.S (TL.numL n))) (fun k H1 => H1 = upd H' D (.lst [])) rfl (fun _ _ _ _ => trivial) (fun k x H1 H2 hk e y => ?_) (fun H1 e => ?_)⟩
      · obtain ⟨e2, c, hc, rfl⟩ := y
        subst e2
        have hm : c ∈ TL.numL n := by
          have : c ∈ (SX.S (TL.numL n)).cps.toList := List.mem_of_getElem? (by rw [Array.getElem?_toList]; exact hc)
          exact this
        have hr2 := TL.numL_digits n c hm
        refine ⟨rfl, _, rfl, c, _, rfl, rfl, _, rfl, iteN ?_ e⟩
        have h2 : c ∈ (Str.ofString "0123456789" : Str).cps.toList := by
          rw [dig_S]
          show c ∈ [48, 49, 50, 51, 52, 53, 54, 55, 56, 57]
          simp
          omega
        rw [decide_eq_true h2]
        rfl
      · subst e
        refine ⟨Nat.zero_le _, fun p1 hp1 => neStrs (l := []) (fun _ hx => nomatch hx) (SqL.of upd_same) hp1 ⟨_, rfl, iteN (by simp) ?_⟩⟩
        have e2 : Ext H' (upd (upd H' D (.lst [])) p1 (.lst [])) := (Ext.upd hD).upd' hp1
        have fin : tCB (fun xs H Q => ∃ a n, xs = [.str a] ∧ PySem.intText? a = some n ∧ a.length ≤ 640 ∧ Q (.int n) H) (tCons (tVar 0) tNil) [some (.str (SX.S (itl i))), some (.str (SX.S (TL.numL n))), none] (upd (upd H' D (.lst [])) p1 (.lst [])) Q :=
          ⟨_, rfl, _, i, rfl, itl_int (by omega), by rw [SX.S_len]; omega, Qk _ e2⟩
        obtain ⟨c, r, hcr⟩ : ∃ c r, TL.numL n = c :: r := by
          cases hq : TL.numL n with
          | nil => exact absurd hq dne
          | cons c r => exact ⟨c, r, rfl⟩
        refine ⟨_, rfl, _, 0, c, rfl, rfl, hzd, ?_, rfl, _, rfl, ?_⟩
        · show atI (TL.numL n) 0 = some c
          rw [hcr]
          exact atI_nat (xs := c :: r) (j := 0) rfl
        · by_cases z : n = 0
          · refine iteY (decide_eq_true ?_) ⟨_, rfl, rfl, _, rfl, iteN ?_ fin⟩
            · rw [z] at hcr
              have : c = 48 := by
                have h2 : ([48] : List Nat) = c :: r := hcr
                exact (List.cons.inj h2).1.symm
              rw [this, o_S]
            · rw [hn0 z, o_S]
              simp
          · refine iteN (decide_eq_false ?_) (iteF fin)
            obtain ⟨c', r', h1, h2⟩ := numL_head (n := n) (by omega)
            rw [hcr] at h1
            have h3 : c = c' := (List.cons.inj h1).1
            rw [o_S]
            intro e
            have h4 : V.str (SX.S [c]) = V.str (SX.S [48]) := e
            have h5 : [c] = [48] := by
              by_cases h6 : [c] = [48]
              · exact h6
              · exact absurd h4 (S_ne h6)
            exact h2 (by rw [← h3]; exact (List.cons.inj h5).1)
  · rcases hcase with e | e
    · refine iteN (decide_eq_false ?_) ⟨_, rfl, hd _ _ ⟨rfl, ?_⟩⟩
      · rw [SX.slice_to (by decide), m_S]
        refine S_ne fun z => ?_
        have h1 : (itl i).head? = some 45 := by
          have h2 : (List.take (1 : Int).toNat (itl i)).head? = some 45 := by rw [z]; rfl
          cases hq : itl i with
          | nil => exact absurd hq (itl_ne i)
          | cons a b => rw [hq] at h2; simpa using h2
        have h3 : 45 ∈ TL.numL n := by
          rw [← e]
          exact List.mem_of_mem_head? h1
        have := TL.numL_digits n 45 h3
        omega
      · rw [← e]
        rfl
    · refine iteY (decide_eq_true ?_) ⟨_, rfl, _, rfl, _, rfl, hz, hd _ _ ⟨rfl, ?_⟩⟩
      · rw [SX.slice_to (by decide), m_S, e]
        rfl
      · rw [SX.slice_from (by decide)]
        have e2 : (itl i).drop (1 : Int).toNat = TL.numL n := by rw [e]; rfl
        rw [e2]
        rfl
/-- piece_in, at the text of an entry -/
def spPIn (K : PySem.W.Frag) : Sp := fun vs H Q _ => ∃ p : Int × Int, vs = [.str (pc p)] ∧ p.2 ≠ 0 ∧ (itl p.1).length ≤ 600 ∧ (itl p.2).length ≤ 600 ∧ ∀ t H', Ext H H' → SqT K H' t [.int p.1, .int p.2] → Q (.ref t) H'
abbrev nmPIn : List Str := ["text", "parts", "each", "power"]
theorem scPIn : FnScope nmPIn ["text"] (defScope (top 20)) := C8.fnScope_by (by decide +kernel)
theorem cal_pin (T : Txt K mg) : C8.Cal P w K mg base 2 "piece_in" (spPIn K) [] := by
  refine calF (k := 1) (T.fn 12 rfl rfl) scPIn (fun _ _ _ _ _ _ us hl => match us, hl with | [_], _ => rfl) (fun vs H Q E h => by obtain ⟨_, rfl, _⟩ := h; rfl) (fun f cdv A outer s H vs Q E hr h => ?_)
  refine ⟨_, pss_cons (ps_set (i := 1) scPIn.nd rfl (Or.inl rfl) (pe_split (pv 0) pe_str))
    (pss_cons (ps_if (pt_cmpR op_ne (pe_callB call_len_seq (by rfl) (T.free 8) (by decide +kernel) (pa_cons (pv 1) pa_nil)) pe_int (nomark _)) (pss_one (ps_ret pe_non)) pss_nil)
    (pss_cons (ps_par (i := 2) (j := 3) rfl scPIn.nd rfl rfl (by decide) rfl rfl (pa_cons (C8.pe_c (cal_win T) hr (by decide) (by rfl) (pa_cons (pe_ix ix_list (pv 1) pe_int (fun _ _ => rfl)) pa_nil)) (pa_cons (C8.pe_c (cal_win T) hr (by decide) (by rfl) (pa_cons (pe_ix ix_list (pv 1) pe_int (fun _ _ => rfl)) pa_nil)) pa_nil)) (by rfl))
    (pss_one (ps_ret (pe_ifExp (PW.pt (pw_or (pt_cmpR op_isN (pv 2) pe_non (nomark _)) (pw_or (pt_cmpR op_isN (pv 3) pe_non (nomark _)) (pw_or1 (pt_cmpR op_eq (pv 2) pe_int (nomark _)))))) pe_non (pe_tup (pa_cons (pv 3) (pa_cons (pv 2) pa_nil)))))))), ?_⟩
  obtain ⟨p, rfl, hne, l1, l2, Qk⟩ := h
  refine ⟨_, rfl, ⟨_, rfl⟩, _, _, rfl, rfl, ?_, ?_, fun D hD => ?_⟩
  · rw [q_S, SX.S_len]; rfl
  · unfold pc pcl
    rw [SX.S_len, List.length_append, List.length_cons, sizeLine_eq]
    omega
  · rw [split_pc]
    have hD' : SqL K (upd H D (.lst ([SX.S (itl p.2), SX.S (itl p.1)].map V.str))) D ([SX.S (itl p.2), SX.S (itl p.1)].map V.str) := SqL.of upd_same
    refine ⟨_, rfl, D, _, rfl, .inl hD', rfl, _, rfl, iteN (by simp) ?_⟩
    refine ⟨_, rfl, D, _, 0, _, rfl, rfl, hD', atI_nat (j := 0) rfl, p.2, rfl, l2, fun H1 e1 => ⟨_, rfl, D, _, 1, _, rfl, rfl, hD'.ext e1, atI_nat (j := 1) rfl, p.1, rfl, l1, fun H2 e2 => ⟨_, _, rfl, ?_⟩⟩⟩
    refine ⟨_, rfl, rfl, _, rfl, iteN (by simp) ⟨_, rfl, rfl, _, rfl, iteN (by simp) ⟨_, rfl, rfl, _, rfl, iteN (by simpa using hne) ⟨_, rfl, _, rfl, by show 2 ≤ sizeLine; decide, fun t ht => ?_⟩⟩⟩⟩
    exact Qk t _ ((((Ext.upd hD).trans e1).trans e2).upd' ht) (SqT.of upd_same)
end
end Lau
end
section
/-! ## part D7 -/
set_option maxHeartbeats 4000000
namespace Lau
open PySem PySem.Spec PyProof.Rows L2
/-! the entries of a row in their order -/
theorem nzL_lt (r : Raw) : (nzL r).Pairwise fun p q => p.1 < q.1 := List.Pairwise.filter _ (row_lt _ _)
theorem nzL_head {r : Raw} (n : Nrm r) (h : r.2 ≠ []) : ∃ c l, nzL r = (r.1, c) :: l := by
  obtain ⟨lo, cs⟩ := r
  cases cs with
  | nil => exact absurd rfl h
  | cons c cs =>
    rcases n with ⟨z, _⟩ | ⟨_, z, _⟩
    · exact absurd z h
    · have e : rat (lo, c :: cs) lo = c := by
        have := rat_of (r := (lo, c :: cs)) (i := 0) (c := c) rfl
        simpa using this
      have hc : c ≠ 0 := by rw [← e]; exact z
      refine ⟨c, nzE (rowE (lo + 1) cs), ?_⟩
      unfold nzL nzE
      show List.filter _ ((lo, c) :: rowE (lo + 1) cs) = _
      rw [List.filter_cons, if_pos (by simpa using hc)]
theorem nzL_last {r : Raw} (n : Nrm r) (h : r.2 ≠ []) {p : Int × Int} (hp : (nzL r)[(nzL r).length - 1]? = some p) : p.1 = r.1 + r.2.length - 1 := by
  rcases n with ⟨z, _⟩ | ⟨_, _, z⟩
  · exact absurd z h
  · have hm : (r.1 + r.2.length - 1, rat r (r.1 + r.2.length - 1)) ∈ nzL r := nzL_mem.mpr ⟨z, rfl⟩
    have hpm := nzL_mem.mp (List.mem_of_getElem? hp)
    have s := rat_some hpm.1
    obtain ⟨j, hj⟩ := List.getElem?_of_mem hm
    have hjl := lt_of_get hj
    have hpl := lt_of_get hp
    rw [List.getElem?_eq_getElem hjl] at hj
    rw [List.getElem?_eq_getElem hpl] at hp
    have e1 := Option.some.inj hj
    have e2 := Option.some.inj hp
    rcases Nat.lt_or_ge j ((nzL r).length - 1) with q | q
    · have := List.pairwise_iff_getElem.mp (nzL_lt r) j _ hjl hpl q
      rw [e1, e2] at this
      simp only at this
      omega
    · have : j = (nzL r).length - 1 := by omega
      subst this
      rw [e1] at e2
      rw [← e2]
theorem nzL_nil {r : Raw} (n : Nrm r) : nzL r = [] ↔ r.2 = [] := by
  constructor
  · intro h
    by_cases q : r.2 = []
    · exact q
    · obtain ⟨c, l, e⟩ := nzL_head n q
      rw [e] at h; cases h
  · intro h
    unfold nzL
    rw [h]
    rfl
theorem ev_nzL (r : Raw) (k : Int) : ev (nzL r) k = rat r k := by
  unfold nzL
  rw [ev_nz, ev_row]
section
variable {P : Program} {w : World} {K : PySem.W.Frag} {mg : Str → Option Value} {base : Heap}
/-- raw_in, at the text of a row -/
def spRIn (K : PySem.W.Frag) : Sp := fun vs H Q _ => ∃ r : Raw, vs = [.str (txt r), .int 400] ∧ Nrm r ∧ TB r ∧ (∀ k, rat r k ≠ 0 → -400 ≤ k ∧ k ≤ 400) ∧ ∀ p H', Ext H H' → RawAt K H' p r → Q (.ref p) H'
abbrev nmRIn : List Str := ["text", "most", "pairs", "before", "pair", "row", "power", "each", "piece", "turn"]
theorem scRIn : FnScope nmRIn ["text", "most"] (defScope (top 21)) := C8.fnScope_by (by decide +kernel)
theorem cal_rin (T : Txt K mg) : C8.Cal P w K mg base 3 "raw_in" (spRIn K) [] := by
  refine calF (k := 2) (T.fn 13 rfl rfl) scRIn (fun _ _ _ _ _ _ us hl => match us, hl with | [_, _], _ => rfl) (fun vs H Q E h => by obtain ⟨_, rfl, _⟩ := h; rfl) (fun f cdv A outer s H vs Q E hr h => ?_)
  refine ⟨_, pss_cons (ps_if (pt_cmpR op_eq (pv 0) pe_str (nomark _)) (pss_one (ps_ret (pe_tup (pa_cons pe_int (pa_cons (pe_tup pa_nil) pa_nil))))) pss_nil)
    (pss_cons (ps_setLc (i := 2) (own := [("piece", 8)]) (g := gName 8) (tt := tYes) (te := tCall (spPIn K) [] E0 (tCons (tVar 8) tNil)) rfl scRIn.nd rfl rfl (sw_true rfl rfl rfl (by decide +kernel)) (pi_list (pe_split (pv 0) pe_str)) (blkOk_by (N := nmRIn) (sc := defScope (top 21)) (by decide +kernel))
        (fun _ _ _ _ _ => pg_name (i := 8) scRIn.nd rfl (Or.inl rfl)) (fun _ _ _ _ _ => pts_nil) (fun _ _ _ _ _ => C8.pe_c (cal_pin T) hr (by decide) (by rfl) (pa_cons (pv 8) pa_nil)))
    (pss_cons (ps_set (i := 3) scRIn.nd rfl (Or.inl rfl) (pe_op op_sub (pe_un un_neg (pv 1)) pe_int))
    (pss_cons (ps_for PassesOwn.never rfl (pi_list (pv 2)) (pg_name (i := 4) scRIn.nd rfl (Or.inl rfl))
        (pss_cons (ps_if (PW.pt (pw_or (pt_cmpR op_isN (pv 4) pe_non (nomark _)) (pw_or1 (pt_not (pt_chain op_lt op_le (pv 3) (pe_ix ix_tup (pv 4) pe_int (fun _ _ => rfl)) (pv 1)))))) (pss_one (ps_ret pe_non)) pss_nil)
        (pss_one (ps_set (i := 3) scRIn.nd rfl (Or.inl rfl) (pe_ix ix_tup (pv 4) pe_int (fun _ _ => rfl))))))
    (pss_cons (ps_setLc (i := 5) (own := [("turn", 9)]) (g := gName 9) (tt := tYes) rfl scRIn.nd rfl rfl (sw_true rfl rfl rfl (by decide +kernel)) (pi_range1 (by rfl) (T.free 12) (pa_cons (pe_op op_add (pe_op op_sub (pv 3) (pe_ix ix_tup (pe_ix ix_list (pv 2) pe_int (fun _ _ => rfl)) pe_int (fun _ _ => rfl))) pe_int) pa_nil)) (blkOk_by (N := nmRIn) (sc := defScope (top 21)) (by decide +kernel))
        (fun _ _ _ _ _ => pg_name (i := 9) scRIn.nd rfl (Or.inl rfl)) (fun _ _ _ _ _ => pts_nil) (fun _ _ _ _ _ => pe_int))
    (pss_cons (ps_for PassesOwn.never rfl (pi_list (pv 2)) (pg_tup rfl (pgs_cons (pg_name (i := 6) scRIn.nd rfl (Or.inl rfl)) (pgs_cons (pg_name (i := 7) scRIn.nd rfl (Or.inl rfl)) pgs_nil)))
        (pss_one (ps_asg (pv 7) (pg_sub (pv 5) (pe_op op_sub (pv 6) (pe_ix ix_tup (pe_ix ix_list (pv 2) pe_int (fun _ _ => rfl)) pe_int (fun _ _ => rfl))) set_list))))
    (pss_one (ps_ret (pe_tup (pa_cons (pe_ix ix_tup (pe_ix ix_list (pv 2) pe_int (fun _ _ => rfl)) pe_int (fun _ _ => rfl)) (pa_cons (pe_callTy call_tuple_of (by rfl) (T.free 17) (by decide +kernel) (pa_cons (pv 5) pa_nil)) pa_nil)))))))))), ?_⟩
  obtain ⟨r, rfl, nr, b, hk, Qk⟩ := h
  refine ⟨_, rfl, rfl, _, rfl, ?_⟩
  by_cases hnz : nzL r = []
  · have h2 : r.2 = [] := (nzL_nil nr).mp hnz
    have hr0 : r = (0, []) := by
      rcases nr with ⟨_, z⟩ | ⟨z, _⟩
      · exact Prod.ext z h2
      · exact absurd h2 z
    refine iteY (decide_eq_true ?_) ⟨Nat.zero_le _, fun t ht => ⟨by show 2 ≤ sizeLine; decide, fun x hx => ?_⟩⟩
    · unfold txt
      rw [if_pos hnz]
    · refine Qk x _ ((Ext.upd ht).upd' hx) ?_
      rw [hr0]
      exact raw_new (r := (0, [])) (SqT.of upd_same) hx
  · have h2 : r.2 ≠ [] := fun z => hnz ((nzL_nil nr).mpr z)
    refine iteN (decide_eq_false fun e => txt_ne0 hnz (V.str.inj e)) ?_
    have hlen := b.nz
    generalize hL : nzL r = L at hnz hlen
    have mem : ∀ p ∈ L, p.2 ≠ 0 ∧ (itl p.1).length ≤ 600 ∧ (itl p.2).length ≤ 600 ∧ -400 ≤ p.1 ∧ p.1 ≤ 400 ∧ r.1 ≤ p.1 ∧ p.1 < r.1 + r.2.length := fun p hp => by
      rw [← hL] at hp
      obtain ⟨_, _, m3, m4⟩ := b.mem hp
      obtain ⟨m5, m6⟩ := nzL_mem.mp hp
      have m7 := hk p.1 m5
      have m8 := rat_some m5
      exact ⟨by rw [m6]; exact m5, by omega, by omega, m7.1, m7.2, m8.1, m8.2⟩
    have inc : L.Pairwise fun p q => p.1 < q.1 := by rw [← hL]; exact nzL_lt r
    -- the split text, the pairs
    refine nextI ?_
    refine seqP (fun σ H' => Ext H H' ∧ ∃ (D : Addr) (ts : List Addr), ts.length = L.length ∧ H' D = some (.lst (ts.map V.ref)) ∧ (∀ (j : Nat) t p, ts[j]? = some t → L[j]? = some p → SqT K H' t [.int p.1, .int p.2]) ∧
      σ = [some (.str (txt r)), some (.int 400), some (.ref D), none, none, none, none, none, none, none]) ?_ (fun hd => ⟨_, rfl, ⟨_, rfl⟩, _, _, rfl, rfl, ?_, ?_, fun p0 hp0 => ⟨p0, rfl, ⟨_, SqL.of upd_same⟩, fun D hD => ?_⟩⟩)
    · rintro σ H1 ⟨e1, D, ts, hlt, hts, hall, rfl⟩
      obtain ⟨c0, l0, hhead⟩ := nzL_head nr h2
      rw [hL] at hhead
      have hn0 : 0 < L.length := List.length_pos_iff.mpr hnz
      have lk : ∀ (j : Nat) (p : Int × Int), L[j]? = some p → ∃ t : Addr, (ts.map V.ref)[j]? = some (V.ref t) ∧ ts[j]? = some t ∧ SqT K H1 t [.int p.1, .int p.2] := fun j p hp => by
        have hj := lt_of_get hp
        have hj2 : j < ts.length := by omega
        exact ⟨ts[j], by rw [List.getElem?_map, List.getElem?_eq_getElem hj2]; rfl, List.getElem?_eq_getElem hj2, hall j _ p (List.getElem?_eq_getElem hj2) hp⟩
      obtain ⟨t0, ht0, _, hT0⟩ := lk 0 (r.1, c0) (by rw [hhead]; rfl)
      have tl : (ts.map V.ref).length = L.length := by rw [List.length_map, hlt]
      -- before
      refine ⟨_, rfl, _, rfl, _, _, rfl, rfl, nmI ?_⟩
      refine seqP (fun σ H2 => H2 = H1 ∧ ∃ v4, σ = [some (.str (txt r)), some (.int 400), some (.ref D), some (.int (r.1 + r.2.length - 1)), v4, none, none, none, none, none]) ?_ (fun hd => ⟨_, rfl, D, rfl, ⟨_, SqL.of hts⟩, for_list (xs := ts.map V.ref) (fun k σ H2 => H2 = H1 ∧ ∃ (bf : Int) (v4 : Option V), (∀ p ∈ L.drop k, bf < p.1) ∧ (k = 0 ∨ ∃ p, L[k - 1]? = some p ∧ bf = p.1) ∧
        σ = [some (.str (txt r)), some (.int 400), some (.ref D), some (.int bf), v4, none, none, none, none, none]) ⟨rfl, _, none, fun p hp => ?_, .inl rfl, rfl⟩ (fun k σ H2 _ pv => by rw [pv.1]; exact SqL.of hts) (fun k x σ H2 hx pv => ?_) (fun σ H2 pv => ?_)⟩)
      · rintro σ H2 ⟨rfl, v4, rfl⟩
        have hat0 : atI (ts.map V.ref) 0 = some (.ref t0) := atI_nat (j := 0) ht0
        have hrl : 0 < r.2.length := List.length_pos_iff.mpr h2
        have hbl := b.len
        refine ⟨_, rfl, _, rfl, D, _, 0, _, rfl, rfl, SqL.of hts, hat0, t0, _, 0, _, rfl, rfl, hT0, rfl, _, _, rfl, rfl, _, _, rfl, rfl, r.2.length, congrArg (fun z => [V.int z]) (by omega), by omega, by omega, zeros_in (n := r.2.length) (by omega) fun Lr hLr => ?_⟩
        have hLr0 : H Lr = none := by
          cases e : H Lr with
          | none => rfl
          | some o => rw [e1 _ _ e] at hLr; cases hLr
        have neD : ∀ {G : Hp} {o : HO}, G D = some (.lst (ts.map V.ref)) → upd G Lr o D = some (.lst (ts.map V.ref)) := fun {G o} h => by rw [upd_ne (ne_of_none hts hLr)]; exact h
        refine ⟨_, rfl, D, rfl, ⟨_, SqL.of (neD hts)⟩, for_list (xs := ts.map V.ref) (fun k σ H3 => Ext H2 H3 ∧ H3 Lr = some (.lst ((tab r.2.length fun j => ev (L.take k) (r.1 + j)).map V.int)) ∧
          ∃ v6 v7, σ = [some (.str (txt r)), some (.int 400), some (.ref D), some (.int (r.1 + r.2.length - 1)), v4, some (.ref Lr), v6, v7, none, none]) ⟨Ext.upd hLr, ?_, none, none, rfl⟩ (fun k σ H3 _ pv => SqL.of (pv.1 _ _ hts)) (fun k x σ H3 hx pv => ?_) (fun σ H3 pv => ?_)⟩
        · rw [upd_same, zeros_tab]
          rfl
        · obtain ⟨e3, hr3, v6, v7, rfl⟩ := pv
          have hkl : k < L.length := by have := lt_of_get hx; omega
          have hpL := List.getElem?_eq_getElem hkl
          generalize L[k] = p at hpL
          obtain ⟨t, ht, _, hT⟩ := lk k p hpL
          rw [ht] at hx
          cases hx
          have hm := mem p (List.mem_of_getElem? hpL)
          have hj : p.1 - r.1 = ((p.1 - r.1).toNat : Nat) := by omega
          refine ⟨t, _, rfl, hT.ext e3, rfl, _, _, rfl, _, _, rfl, rfl, _, rfl, _, rfl, _, rfl, _, rfl, D, _, 0, _, rfl, rfl, SqL.of (e3 _ _ hts), hat0, t0, _, 0, _, rfl, rfl, hT0.ext e3, rfl, _, _, rfl, rfl, Lr, _, _, _, rfl, rfl, hr3, ixN_ok hj (by rw [len_tab]; omega), extPut e3 hLr, ?_, _, _, rfl⟩
          rw [upd_same, set_tab]
          congr 3
          refine tab_congr fun j hj' => ?_
          have hz : p.1 ∉ keys (L.take k) := fun hmem => by
            obtain ⟨q, hq, e⟩ := List.mem_map.mp hmem
            obtain ⟨i, hi⟩ := List.getElem?_of_mem hq
            rw [List.getElem?_take] at hi
            split at hi
            · rename_i hik
              have hil := lt_of_get hi
              have := List.pairwise_iff_getElem.mp inc i k hil hkl hik
              rw [List.getElem?_eq_getElem hil] at hi
              rw [List.getElem?_eq_getElem hkl] at hpL
              rw [Option.some.inj hi, Option.some.inj hpL] at this
              omega
            · cases hi
          rw [List.take_add_one, hpL, Option.toList_some, ev_append]
          by_cases z : (j : Int) = ((p.1 - r.1).toNat : Nat)
          · have ez : r.1 + (j : Int) = p.1 := by omega
            rw [if_pos z, ez, ev_none hz]
            simp [ev]
          · have ez : ¬ p.1 = r.1 + (j : Int) := by omega
            rw [if_neg z]
            simp [ev, ez]
        · obtain ⟨e3, hr3, v6, v7, rfl⟩ := pv
          rw [tl, List.take_length] at hr3
          refine ⟨_, rfl, D, _, 0, _, rfl, rfl, SqL.of (e3 _ _ hts), hat0, t0, _, 0, _, rfl, rfl, hT0.ext e3, rfl, _, rfl, Lr, _, rfl, .inl ⟨SqL.of hr3, fun t ht => ⟨by show 2 ≤ sizeLine; decide, fun x hx => ?_⟩⟩⟩
          refine Qk x _ (((e1.trans e3).upd' ht).upd' hx) (raw_new (SqT.of ?_) hx)
          rw [upd_same]
          congr 3
          apply List.ext_getElem
          · exact tab_len _ _
          · intro i h3 h4
            have g := tab_get (n := r.2.length) (f := fun j => ev L (r.1 + j)) h4
            rw [List.getElem?_eq_getElem h3] at g
            rw [Option.some.inj g, ← hL, ev_nzL]
            exact rat_of (List.getElem?_eq_getElem h4)
      · have := (mem p hp).2.2.2.1
        omega
      · obtain ⟨rfl, bf, v4, hbf, _, rfl⟩ := pv
        have hkl : k < L.length := by have := lt_of_get hx; omega
        have hpL := List.getElem?_eq_getElem hkl
        have hdr : L.drop k = L[k] :: L.drop (k + 1) := List.drop_eq_getElem_cons hkl
        generalize L[k] = p at hpL hdr
        obtain ⟨t, ht, _, hT⟩ := lk k p hpL
        rw [ht] at hx
        cases hx
        have hm := mem p (List.mem_of_getElem? hpL)
        have hlt2 : bf < p.1 := hbf p (by rw [hdr]; exact List.mem_cons_self)
        refine ⟨_, rfl, rfl, _, rfl, iteN (by simp) ⟨_, rfl, _, rfl, t, _, 0, _, rfl, rfl, hT, rfl, _, _, rfl, rfl, _, rfl, iteY (decide_eq_true hlt2) ⟨_, rfl, _, _, rfl, rfl, _, rfl, ?_⟩⟩⟩
        refine iteN (by rw [decide_eq_true hm.2.2.2.2.1]; rfl) ⟨_, rfl, t, _, 0, _, rfl, rfl, hT, rfl, rfl, p.1, _, fun q hq => ?_, .inr ⟨p, by simpa using hpL, rfl⟩, rfl⟩
        have pw : (L.drop k).Pairwise fun p q => p.1 < q.1 := List.Pairwise.sublist (List.drop_sublist k L) inc
        rw [hdr, List.pairwise_cons] at pw
        exact pw.1 q hq
      · obtain ⟨rfl, bf, v4, _, hb, rfl⟩ := pv
        rcases hb with hb | ⟨p, hp, hb⟩
        · omega
        · rw [tl, ← hL] at hp
          have := nzL_last nr h2 hp
          exact hd _ _ ⟨rfl, v4, by rw [hb, this]⟩
    · rw [sp_S, SX.S_len]; rfl
    · have := b.txt_len
      rw [sizeLine_eq]
      omega
    · rw [split_txt (by rw [hL]; exact hnz), hL] at hD ⊢
      have hp1 : SqL K (upd H p0 (.lst ((L.map pc).map V.str))) p0 ((L.map pc).map V.str) := SqL.of upd_same
      refine lc_list (xs := (L.map pc).map V.str) (fun k H' => Ext (upd H p0 (.lst ((L.map pc).map V.str))) H' ∧ ∃ ts : List Addr, ts.length = k ∧ H' D = some (.lst (ts.map V.ref)) ∧ ∀ (j : Nat) t p, ts[j]? = some t → L[j]? = some p → SqT K H' t [.int p.1, .int p.2])
        ⟨Ext.upd hD, [], rfl, upd_same, fun j t p h => by simp at h⟩ (fun k H' _ pv => hp1.ext pv.1) (fun k x H' hx pv => ?_) (fun H' pv => ?_)
      · obtain ⟨e1, ts, hl, hts, hall⟩ := pv
        rw [List.getElem?_map, List.getElem?_map] at hx
        obtain ⟨y, hy, rfl⟩ := Option.map_eq_some_iff.mp hx
        obtain ⟨p, hpL, rfl⟩ := Option.map_eq_some_iff.mp hy
        have hm := mem p (List.mem_of_getElem? hpL)
        refine ⟨rfl, ?_⟩
        unfold tYes
        dsimp only
        rw [if_pos rfl]
        have hkl := lt_of_get hpL
        refine ⟨_, rfl, p, rfl, hm.1, hm.2.1, hm.2.2.1, fun t H2 e2 ht => ⟨_, e2 _ _ hts, by rw [List.length_map, sizeLine_eq]; omega, extPut (e1.trans e2) hD, ts ++ [t], by simp [hl], ?_, fun j t' q h1 h3 => ?_⟩⟩
        · rw [upd_same]; simp
        · have hne : ∀ {a : Addr} {xs : List V}, SqT K H2 a xs → SqT K (upd H2 D (.lst (ts.map V.ref ++ [V.ref t]))) a xs := fun {a xs} h => by
            rcases h with (h | ⟨o, h⟩) | h
            · exact .inl (.inl (by rw [upd_ne (ne_of h (e2 _ _ hts) (by intro z; cases z))]; exact h))
            · exact .inl (.inr ⟨o, by rw [upd_ne (ne_of h (e2 _ _ hts) (by intro z; cases z))]; exact h⟩)
            · exact .inr h
          rcases Nat.lt_or_ge j ts.length with q1 | q1
          · rw [List.getElem?_append_left q1] at h1
            exact hne ((hall j t' q h1 h3).ext e2)
          · rw [List.getElem?_append_right q1] at h1
            have hj : j = ts.length := by
              have := lt_of_get h1
              simp at this
              omega
            subst hj
            rw [hl] at h3
            rw [hpL] at h3
            have e3 := Option.some.inj h3
            subst e3
            have e4 : t = t' := by simpa using h1
            subst e4
            exact hne ht
      · obtain ⟨e1, ts, hl, hts, hall⟩ := pv
        rw [List.length_map, List.length_map] at hl
        exact hd _ _ ⟨(Ext.upd hp0).trans e1, D, ts, hl, hts, hall, rfl⟩
end
end Lau
end
section
/-! ## part D8 -/
set_option maxHeartbeats 4000000
namespace Lau
open PySem PySem.Spec PyProof.Rows L2
section
variable {P : Program} {w : World} {K : PySem.W.Frag} {mg : Str → Option Value} {base : Heap}
/-- is_whole, at an int -/
def spIsW : Sp := fun vs H Q _ => ∃ i : Int, vs = [.int i] ∧ Q (.bl true) H
theorem scIsW : FnScope ["value"] ["value"] (defScope (top 23)) := C8.fnScope_by (by decide +kernel)
theorem cal_isw (T : Txt K mg) : C8.Cal P w K mg base 1 "is_whole" spIsW [] := by
  refine calF (k := 0) (T.fn 14 rfl rfl) scIsW (fun _ _ _ _ _ _ us hl => match us, hl with | [_], _ => rfl) (fun vs H Q E h => by obtain ⟨_, rfl, _⟩ := h; rfl) (fun f cdv A outer s H vs Q E hr h => ?_)
  refine ⟨_, pss_one (ps_ret (pe_and (pe_callB call_isi (by rfl) (T.free 7) (by decide +kernel) (pa_cons (pv 0) (pa_cons (pe_bltn (v := .ty "int") (by rfl) (T.free 6) (by decide +kernel) rfl) pa_nil)))
    (pe_one (pe_not (pe_callB call_isi (by rfl) (T.free 7) (by decide +kernel) (pa_cons (pv 0) (pa_cons (pe_bltn (v := .ty "bool") (by rfl) (T.free 2) (by decide +kernel) rfl) pa_nil))))))), ?_⟩
  obtain ⟨i, rfl, q⟩ := h
  refine ⟨_, rfl, _, _, .type "int", _, true, rfl, .ty "int", .base (.int i), kit_ty (by decide +kernel), _, rfl, iteT ⟨_, rfl, _, _, .type "int", _, false, rfl, .ty "bool", .base (.int i), kit_ty (by decide +kernel), _, rfl, q⟩⟩
/-- is_between, within -/
def spIsB : Sp := fun vs H Q _ => ∃ v lo hi : Int, vs = [.int v, .int lo, .int hi] ∧ lo ≤ v ∧ v ≤ hi ∧ Q (.bl true) H
theorem scIsB : FnScope ["value", "low", "high"] ["value", "low", "high"] (defScope (top 24)) := C8.fnScope_by (by decide +kernel)
theorem cal_isb (T : Txt K mg) : C8.Cal P w K mg base 2 "is_between" spIsB [] := by
  refine calF (k := 1) (T.fn 15 rfl rfl) scIsB (fun _ _ _ _ _ _ us hl => match us, hl with | [_, _, _], _ => rfl) (fun vs H Q E h => by obtain ⟨_, _, _, rfl, _⟩ := h; rfl) (fun f cdv A outer s H vs Q E hr h => ?_)
  refine ⟨_, pss_one (ps_ret (pe_and (C8.pe_c (cal_isw T) hr (by decide) (by rfl) (pa_cons (pv 0) pa_nil)) (pe_one (pe_chain op_le op_le (pv 1) (pv 0) (pv 2))))), ?_⟩
  obtain ⟨v, lo, hi, rfl, h1, h2, q⟩ := h
  refine ⟨_, rfl, v, rfl, _, rfl, iteT ⟨_, rfl, _, rfl, _, _, rfl, rfl, _, rfl, iteY (decide_eq_true h1) ⟨_, rfl, _, _, rfl, rfl, ?_⟩⟩⟩
  have e : decide (v ≤ hi) = true := decide_eq_true h2
  exact (show Q (.bl (decide (v ≤ hi))) H from by rw [e]; exact q)
/-- raw_checked, at what it takes -/
def spRChk (K : PySem.W.Frag) : Sp := fun vs H Q _ => ∃ (lo : Int) (a : Addr) (cs : List Int), vs = [.int lo, .ref a] ∧ SqT K H a (cs.map V.int) ∧ -400 ≤ lo ∧ lo ≤ 400 ∧ cs.length ≤ 800 ∧ 
  ∀ r p H', Ext H H' → Nrm r → (∀ k, rat r k = rat (lo, cs) k) → RawAt K H' p r → Q (.ref p) H'
abbrev nmRChk : List Str := ["lowest", "coefficients", "index", "each"]
theorem scRChk : FnScope nmRChk ["lowest", "coefficients"] (defScope (top 27)) := C8.fnScope_by (by decide +kernel)
theorem tyx_tup {K : PySem.W.Frag} {H : Hp} {a : Addr} {xs : List V} (h : SqT K H a xs) : TyX K H (.ref a) (.type "tuple") := by
  rcases h with (h | ⟨o, h⟩) | ⟨o, its, n, e, c, _⟩
  · exact .base (.tup h)
  · exact .fTuple h
  · exact .kTuple e c
/-- a slice of a row of a tuple that keeps all of it -/
theorem cut_all {K : PySem.W.Frag} {H : Hp} {x : Addr} {xs : List V} {k : Nat} {Q : VK} (h : SqT K H x xs) (hk : xs.length ≤ k) (q : Q (.ref x) H) : rSlA K (.ref x) none (some (k : Int)) H Q := by
  have e : HT.sIx xs.length 0 none = 0 ∧ HT.sIx xs.length xs.length (some (k : Int)) = xs.length := ⟨rfl, by rw [HT.sIx_nat, Nat.min_eq_right hk]⟩
  exact ⟨x, xs, rfl, h, fun _ => q, fun z => absurd e z⟩
theorem cal_rchk (T : Txt K mg) : C8.Cal P w K mg base 3 "raw_checked" (spRChk K) [] := by
  obtain ⟨tk, h400⟩ := T.l400
  refine calF (k := 2) (T.fn 16 rfl rfl) scRChk (fun _ _ _ _ _ _ us hl => match us, hl with | [_, _], _ => rfl) (fun vs H Q E h => by obtain ⟨_, _, _, rfl, _⟩ := h; rfl) (fun f cdv A outer s H vs Q E hr h => ?_)
  refine ⟨_, pss_cons (ps_if (pt_not (pt_val (C8.pe_c (cal_isb T) hr (by decide) (by rfl) (pa_cons (pv 0) (pa_cons (pe_un un_neg (pe_glob (v := .int 400) (by rfl) h400 ⟨_, rfl⟩)) (pa_cons (pe_glob (v := .int 400) (by rfl) h400 ⟨_, rfl⟩) pa_nil)))))) pss_never pss_nil)
    (pss_cons (ps_if (pt_not (pt_val (pe_callB call_isi (by rfl) (T.free 7) (by decide +kernel) (pa_cons (pv 1) (pa_cons (pe_bltn (v := .ty "tuple") (by rfl) (T.free 17) (by decide +kernel) rfl) pa_nil))))) pss_never pss_nil)
    (pss_cons (ps_for PassesOwn.never rfl (pi_enumT (by rfl) (T.free 5) (pa_cons (pe_slice sl_tupA (pv 1) po_none (po_some (pe_op op_mul pe_int (pe_glob (v := .int 400) (by rfl) h400 ⟨_, rfl⟩)))) pa_nil)) (pg_tup rfl (pgs_cons (pg_name (i := 2) scRChk.nd rfl (Or.inl rfl)) (pgs_cons (pg_name (i := 3) scRChk.nd rfl (Or.inl rfl)) pgs_nil)))
        (pss_one (ps_if (pt_not (pt_val (C8.pe_c (cal_isw T) hr (by decide) (by rfl) (pa_cons (pv 3) pa_nil)))) pss_never pss_nil)))
    (pss_cons (ps_if (pt_cmpR op_gt (pe_callB call_len_seq (by rfl) (T.free 8) (by decide +kernel) (pa_cons (pv 1) pa_nil)) (pe_op op_mul pe_int (pe_glob (v := .int 400) (by rfl) h400 ⟨_, rfl⟩)) (nomark _)) pss_never pss_nil)
    (pss_one (ps_ret (C8.pe_c (cal_trimmed T) hr (by decide) (by rfl) (pa_cons (pv 0) (pa_cons (pv 1) pa_nil)))))))), ?_⟩
  obtain ⟨lo, a, cs, rfl, ha, h1, h2, h3, q⟩ := h
  refine ⟨_, rfl, _, rfl, lo, -400, 400, rfl, h1, h2, true, rfl, iteN rfl ⟨_, rfl, _, _, .type "tuple", _, true, rfl, .ty "tuple", tyx_tup ha, kit_ty (by decide +kernel), true, rfl, iteN rfl ?_⟩⟩
  refine ⟨_, rfl, _, _, rfl, rfl, .inl ⟨by decide, by decide⟩, _, rfl, cut_all (k := 800) ha (by rw [List.length_map]; exact h3) ?_⟩
  refine ⟨a, _, rfl, ha, enum_for (xs := cs) (fun t σ H' => Ext H H' ∧ ∃ v2 v3, σ = [some (.int lo), some (.ref a), v2, v3]) ⟨Ext.rfl', none, none, rfl⟩ (fun t σ H' _ pv => ha.ext pv.1) ?_ ?_⟩
  · rintro t c σ H1 H2 hc ⟨e1, v2, v3, rfl⟩ e2
    exact ⟨_, rfl, c, rfl, true, rfl, iteN rfl ⟨e1.trans e2, _, _, rfl⟩⟩
  · rintro σ H1 ⟨e1, v2, v3, rfl⟩
    refine ⟨_, rfl, a, _, rfl, .inr (ha.ext e1), _, _, rfl, rfl, .inl ⟨by decide, by decide⟩, _, _, rfl, rfl, _, rfl, iteN (decide_eq_false ?_) ?_⟩
    · rw [List.length_map]
      omega
    · exact ⟨_, rfl, _, rfl, lo, a, cs, rfl, .inr (ha.ext e1), fun r p H2 e2 n hr' _ hp => q r p H2 (e1.trans e2) n hr' hp⟩
end
end Lau
end
section
/-! ## part D9 -/
set_option maxHeartbeats 4000000
namespace Lau
open PySem PySem.Spec PyProof.Rows L2
/-- a def by its address: its promise, and how it binds -/
structure FnB (P : Program) (w : World) (K : PySem.W.Frag) (mg : Str → Option Value) (base : Heap) (k : Nat) (f : Addr) (sp : Sp) : Prop where
  ex : ∃ (fd : FuncData) (ps : List Str), FnOk P w K mg base CX0 k f fd ps sp ∧ Binds K fd ps []
section
variable {P : Program} {w : World} {K : PySem.W.Frag} {mg : Str → Option Value} {base : Heap}
/-- a def of the class by its body -/
theorem fnB {f : Addr} {m qual : Str} {j k : Nat} {N ps : List Str} {sp : Sp} (D : ∃ fd, FunD K m qual (defArgs (inL j)) (defBody (inL j)) (defScope (inL j)) [] [] f fd) (S : FnScope N ps (defScope (inL j)))
    (hb : ∀ (kV doc pm : Value) (an : Option Addr) (cdv ct : Value) (us : List Value), us.length = ps.length → bindArgs (PySem.W.fnOf m qual (defArgs (inL j)) (defBody (inL j)) (defScope (inL j)) .none kV doc pm an cdv ct) ⟨us, []⟩ = pure (ps.zip us))
    (len : ∀ vs H Q E, sp vs H Q E → vs.length = ps.length)
    (hbody : ∀ (f : Addr) (cdv : Value) (A : Around) (outer : List Env) (s : Shared) (H : Hp) (vs : List V) (Q : VK) (E : XK), Room k (A.deeper (envOfC qual (defScope (inL j)) s.heap.objs.size f cdv)) → sp vs H Q E →
      ∃ t, PSs (cxOf CX0 P w K mg base N qual (defScope (inL j)) f cdv A outer s H E).nox (defBody (inL j)) t ∧ t { nx := fun _ H' => Q .non H', rt := Q } (start N vs) H) : FnB P w K mg base (k + 1) f sp := by
  obtain ⟨fd, F⟩ := D
  refine ⟨fd, ps, F.ok S len (fun cdv A outer s H vs Q E hr h => ?_), F.bindsN hb⟩
  obtain ⟨t, h1, h2⟩ := hbody f cdv A outer s H vs Q E hr h
  exact ⟨t, PSs.nox h1, h2⟩
theorem SqT.offI {H : Hp} {x C dx : Addr} {fs : List (Str × V)} {o : HO} {a : Addr} {xs : List V} (hx : H x = some (.ins C dx fs)) (h : SqT K H a xs) : SqT K (upd H x o) a xs := by
  rcases h with (h | ⟨ob, h⟩) | h
  · exact .inl (.inl (by rw [upd_ne (ne_of h hx (by intro z; cases z))]; exact h))
  · exact .inl (.inr ⟨ob, by rw [upd_ne (ne_of h hx (by intro z; cases z))]; exact h⟩)
  · exact .inr h
theorem RawAt.offI {H : Hp} {x C dx : Addr} {fs : List (Str × V)} {o : HO} {p : Addr} {r : Raw} (hx : H x = some (.ins C dx fs)) (h : RawAt K H p r) : RawAt K (upd H x o) p r := by
  obtain ⟨t, h1, h2⟩ := h
  exact ⟨t, SqT.offI hx h1, SqT.offI hx h2⟩
/-- Laurent.__init__ -/
def spInit (K : PySem.W.Frag) : Sp := fun vs H Q _ => ∃ (x dx : Addr) (lo : Int) (a : Addr) (cs : List Int) (v : V), vs = [.ref x, .int lo, .ref a, v] ∧ H x = some (.ins (LC K) dx []) ∧ SqT K H a (cs.map V.int) ∧
  ((v = .non ∧ -400 ≤ lo ∧ lo ≤ 400 ∧ cs.length ≤ 800 ∧ ∀ r p H1, Ext H H1 → Nrm r → (∀ k, rat r k = rat (lo, cs) k) → RawAt K H1 p r → Q .non (upd H1 x (.ins (LC K) dx [("_raw", .ref p)]))) ∨
    ∃ q, v = .ref q ∧ Q .non (upd H x (.ins (LC K) dx [("_raw", .ref q)])))
abbrev nmInit : List Str := ["self", "lowest", "coefficients", "_raw"]
theorem scInit : FnScope nmInit nmInit (defScope (inL 0)) := C8.fnScope_by (by decide +kernel)
theorem funInit (T : Txt K mg) : ∃ fd, FunD K "__init__" "Laurent.__init__" (defArgs (inL 0)) (defBody (inL 0)) (defScope (inL 0)) [.non] [] (He.ma K (LC K) "__init__") fd := T.def_ 34 (d := dM (fun K => He.ma K (LC K) "__init__") "__init__" "Laurent.__init__" 0 [.non]) rfl
theorem ok_init (T : Txt K mg) {fd : FuncData} (F : FunD K "__init__" "Laurent.__init__" (defArgs (inL 0)) (defBody (inL 0)) (defScope (inL 0)) [.non] [] (He.ma K (LC K) "__init__") fd) : FnOk P w K mg base CX0 4 (He.ma K (LC K) "__init__") fd nmInit (spInit K) := by
  refine F.ok scInit (fun vs H Q E h => by obtain ⟨_, _, _, _, _, _, rfl, _⟩ := h; rfl) (fun cdv A outer s H vs Q E hr h => ⟨_, PSs.nox (pss_one (ps_fld (pv 0) (pe_ifExp (pt_cmpR op_isN (pv 3) pe_non (nomark _)) (C8.pe_c (cal_rchk T) hr (by decide) (by rfl) (pa_cons (pv 1) (pa_cons (pv 2) pa_nil))) (pv 3)) rfl)), ?_⟩)
  obtain ⟨x, dx, lo, a, cs, v, rfl, hx, ha, hv⟩ := h
  refine ⟨_, rfl, rfl, _, rfl, ?_⟩
  rcases hv with ⟨rfl, h1, h2, h3, q⟩ | ⟨p, rfl, q⟩
  · refine iteY (by simp) ⟨_, rfl, _, rfl, lo, a, cs, rfl, ha, h1, h2, h3, fun r p H1 e1 n hr' hp => ⟨_, rfl, x, LC K, dx, [], rfl, e1 _ _ hx, T.cls.cl, T.nR, by show 0 < 1000; decide, ?_⟩⟩
    exact q r p H1 e1 n hr' hp
  · exact iteN (by simp) ⟨_, rfl, _, rfl, x, LC K, dx, [], rfl, hx, T.cls.cl, T.nR, by show 0 < 1000; decide, q⟩
/-- how __init__ binds -/
theorem bInit1 {fd : FuncData} {f : Addr} (F : FunD K "__init__" "Laurent.__init__" (defArgs (inL 0)) (defBody (inL 0)) (defScope (inL 0)) [.non] [] f fd) : ∃ ds, Vals [V.non] ds ∧ Binds K fd nmInit ds :=
  F.binds1 3 0 (by simp) rfl (fun T kV doc pm an cdv ct us its hl hi => match us, hl, its, hi with | [_, _, _], _, [_], _ => ⟨_, rfl, rfl⟩)
theorem bInitR {fd : FuncData} {f : Addr} (F : FunD K "__init__" "Laurent.__init__" (defArgs (inL 0)) (defBody (inL 0)) (defScope (inL 0)) [.non] [] f fd) : ∃ its : List Value, KBn K fd nmInit 3 ["_raw"] (fun us ws => us ++ ws) (fun vs zs => vs ++ zs) :=
  F.kbindsD 3 ["_raw"] (fun us _ ws => us ++ ws) (by simp) (fun r1 _ r2 => r1.append r2) (fun T kV doc pm an cdv ct us its ws hl hi hw => match us, hl, its, hi, ws, hw with | [_, _, _], _, [_], _, [_], _ => ⟨_, rfl, rfl⟩)
theorem bInitK {fd : FuncData} {f : Addr} (F : FunD K "__init__" "Laurent.__init__" (defArgs (inL 0)) (defBody (inL 0)) (defScope (inL 0)) [.non] [] f fd) : ∃ its : List Value, KBn K fd nmInit 1 ["coefficients", "lowest"] (fun us ws => us ++ (ws.drop 1 ++ (ws.take 1 ++ its))) (fun vs zs => vs ++ (zs.drop 1 ++ (zs.take 1 ++ [.non]))) :=
  F.kbindsD 1 ["coefficients", "lowest"] (fun us its ws => us ++ (ws.drop 1 ++ (ws.take 1 ++ its))) (by simp) (fun r1 rd r2 => r1.append ((r2.drop 1).append ((r2.take 1).append rd))) (fun T kV doc pm an cdv ct us its ws hl hi hw => match us, hl, its, hi, ws, hw with | [_], _, [_], _, [_, _], _ => ⟨_, rfl, rfl⟩)
/-- laurent_of -/
def spLOf (K : PySem.W.Frag) : Sp := fun vs H Q _ => ∃ (q : Addr) (r : Raw), vs = [.ref q] ∧ RawAt K H q r ∧ ∀ x H', Ext H H' → LauAt K H' x r → Q (.ref x) H'
theorem scLOf : FnScope ["pair"] ["pair"] (defScope (top 28)) := C8.fnScope_by (by decide +kernel)
theorem cal_lof (T : Txt K mg) : C8.Cal P w K mg base 6 "laurent_of" (spLOf K) [] := by
  obtain ⟨fd, F⟩ := funInit T
  obtain ⟨its, kb⟩ := bInitR F
  refine calF (k := 5) (T.fn 17 rfl rfl) scLOf (fun _ _ _ _ _ _ us hl => match us, hl with | [_], _ => rfl) (fun vs H Q E h => by obtain ⟨_, _, rfl, _⟩ := h; rfl) (fun f cdv A outer s H vs Q E hr h => ?_)
  refine ⟨_, pss_one (ps_ret (pe_makeN (n := 2) T.mkC (ok_init T F) hr (by rfl) T.gC kb pass0 (pa_cons pe_int (pa_cons (pe_tup pa_nil) pa_nil)) (pk_cons (pv 0) pk_nil))), ?_⟩
  obtain ⟨q, r, rfl, hq, Qk⟩ := h
  refine ⟨Nat.zero_le _, fun t ht => ⟨_, rfl, rfl, rfl, fun x dx hx hdx hne => ?_⟩⟩
  have e1 : Ext H (upd H t (.tup [])) := Ext.upd ht
  have e2 : Ext (upd H t (.tup [])) (upd (upd (upd H t (.tup [])) dx (.own x)) x (.ins (LC K) dx [])) := (Ext.upd hdx).upd' (by rw [upd_ne (Ne.symm hne)]; exact hx)
  refine ⟨x, dx, 0, t, [], .ref q, rfl, upd_same, SqT.ext (SqT.of upd_same) e2, .inr ⟨q, rfl, rfl, ?_⟩⟩
  have hq2 := hq.ext (e1.trans e2)
  refine Qk x _ (extPut (e1.trans e2) ?_) ⟨dx, q, upd_same, RawAt.offI upd_same hq2⟩
  cases e : H x with
  | none => rfl
  | some o => rw [e1 _ _ e] at hx; cases hx
end
end Lau
end
section
/-! ## part D10 -/
set_option maxHeartbeats 4000000
namespace Lau
open PySem PySem.Spec PyProof.Rows L2
/-- what stands on an operator's other side -/
def Opd (K : PySem.W.Frag) (H : Hp) (y : V) (g : Int → Int) : Prop := (∃ b r, y = .ref b ∧ LauAt K H b r ∧ Nrm r ∧ Big r ∧ Sm64 r ∧ g = rat r) ∨ (∃ n : Int, y = .int n ∧ -(2 ^ 64) < n ∧ n < 2 ^ 64 ∧ g = rat (0, [n]))
theorem Opd.ext {K : PySem.W.Frag} {H H' : Hp} {y : V} {g : Int → Int} (h : Opd K H y g) (e : Ext H H') : Opd K H' y g := by
  rcases h with ⟨b, r, h1, h2, h3⟩ | h
  · exact .inl ⟨b, r, h1, h2.ext e, h3⟩
  · exact .inr h
theorem lk_raw {q : V} : List.lookup ("_raw" : Str) [(("_raw" : Str), q)] = some q := by
  have e : (("_raw" : Str) == ("_raw" : Str)) = true := beq_self_eq_true _
  simp only [List.lookup, e]
theorem rat_one (n k : Int) : rat (0, [n]) k = if k = 0 then n else 0 := by
  rw [rat_cons, rat_nil]
  by_cases h : k = 0
  · rw [if_pos h, if_pos h.symm]; omega
  · rw [if_neg h, if_neg (fun z => h z.symm)]; rfl
theorem whole_row {r : Raw} {n : Int} (nr : Nrm r) (h : ∀ k, rat r k = rat (0, [n]) k) (h1 : -(2 ^ 64) < n) (h2 : n < 2 ^ 64) : Big r ∧ Sm64 r ∧ r.2.length ≤ 1 := by
  have b : Bd (rat r) 0 (2 ^ 64 - 1) := by
    refine ⟨fun k q => ?_, fun k => ?_⟩
    · rw [h, rat_one] at q
      by_cases z : k = 0
      · omega
      · rw [if_neg z] at q
        exact absurd rfl q
    · rw [h, rat_one]
      split <;> omega
  obtain ⟨a1, a2, a3, a4, a5⟩ := nrm_bd nr (Int.le_refl 0) b
  refine ⟨⟨by omega, by omega, by omega⟩, fun c hc => ?_, by omega⟩
  have := a5 c hc
  omega
section
variable {P : Program} {w : World} {K : PySem.W.Frag} {mg : Str → Option Value} {base : Heap}
/-- mate_of -/
def spMate (K : PySem.W.Frag) : Sp := fun vs H Q _ => ∃ (y : V) (g : Int → Int), vs = [y] ∧ Opd K H y g ∧ ∀ m q H', Ext H H' → RawAt K H' q m → Nrm m → Big m → Sm64 m → (∀ k, rat m k = g k) → Q (.ref q) H'
theorem scMate : FnScope ["value"] ["value"] (defScope (top 29)) := C8.fnScope_by (by decide +kernel)
theorem cal_mate (T : Txt K mg) : C8.Cal P w K mg base 3 "mate_of" (spMate K) [] := by
  refine calF (k := 2) (T.fn 18 rfl rfl) scMate (fun _ _ _ _ _ _ us hl => match us, hl with | [_], _ => rfl) (fun vs H Q E h => by obtain ⟨_, _, rfl, _⟩ := h; rfl) (fun f cdv A outer s H vs Q E hr h => ?_)
  refine ⟨_, pss_cons (ps_if (pt_val (pe_callB call_isi (by rfl) (T.free 7) (by decide +kernel) (pa_cons (pv 0) (pa_cons (pe_glob (v := .ref (LC K)) (by rfl) T.gC rfl) pa_nil)))) (pss_one (ps_ret (pe_fld (pv 0) rfl))) pss_nil)
    (pss_one (ps_ret (pe_ifExp (pt_val (C8.pe_c (cal_isw T) hr (by decide) (by rfl) (pa_cons (pv 0) pa_nil))) (C8.pe_c (cal_rwh T) hr (by decide) (by rfl) (pa_cons (pv 0) pa_nil)) pe_non))), ?_⟩
  obtain ⟨y, g, rfl, hy, Qk⟩ := h
  rcases hy with ⟨b, r, rfl, ⟨dx, q, hb, hq⟩, nr, br, sr, rfl⟩ | ⟨n, rfl, n1, n2, rfl⟩
  · refine ⟨_, rfl, _, _, .ref (LC K), .ref (LC K), true, rfl, .own _, .base (.ins hb T.cls.cl T.cls.ha T.cls.hn T.cls.htk T.cls.hm), T.cls.me, true, rfl, iteT ⟨_, rfl, b, LC K, dx, _, _, rfl, hb, T.cls.cl, T.nR, lk_raw, ?_⟩⟩
    exact Qk r q H Ext.rfl' hq nr br sr fun _ => rfl
  · refine ⟨_, rfl, _, _, .type "int", .ref (LC K), false, rfl, .own _, .base (.int n), T.cls.kInt, false, rfl, iteF ⟨_, rfl, n, rfl, true, rfl, iteT ⟨_, rfl, n, rfl, fun r p H1 e1 nr hr' hl hp => ?_⟩⟩⟩
    obtain ⟨b1, b2, _⟩ := whole_row nr hr' n1 n2
    exact Qk r p H1 e1 hp nr b1 b2 hr'
/-- letter -/
def spLet (K : PySem.W.Frag) : Sp := fun vs H Q _ => ∃ n : Int, vs = [.int n] ∧ -400 ≤ n ∧ n ≤ 400 ∧ ∀ x H', Ext H H' → LauAt K H' x (n, [1]) → Q (.ref x) H'
theorem scLet : FnScope ["power"] ["power"] (defScope (top 30)) := C8.fnScope_by (by decide +kernel)
theorem ok_let (T : Txt K mg) {f : Addr} {fd : FuncData} (F : FunD K "letter" "letter" (defArgs (top 30)) (defBody (top 30)) (defScope (top 30)) [] [] f fd) : FnOk P w K mg base CX0 7 f fd ["power"] (spLet K) := by
  obtain ⟨tk, h400⟩ := T.l400
  refine F.ok scLet (fun vs H Q E h => by obtain ⟨_, rfl, _⟩ := h; rfl) (fun cdv A outer s H vs Q E hr h => ⟨_, PSs.nox (pss_cons (ps_if (pt_not (pt_val (C8.pe_c (cal_isb T) hr (by decide) (by rfl) (pa_cons (pv 0) (pa_cons (pe_un un_neg (pe_glob (v := .int 400) (by rfl) h400 ⟨_, rfl⟩)) (pa_cons (pe_glob (v := .int 400) (by rfl) h400 ⟨_, rfl⟩) pa_nil)))))) pss_never pss_nil)
    (pss_one (ps_ret (C8.pe_c (cal_lof T) hr (by decide) (by rfl) (pa_cons (C8.pe_c (cal_rlet T) hr (by decide) (by rfl) (pa_cons (pv 0) pa_nil)) pa_nil))))), ?_⟩)
  obtain ⟨n, rfl, h1, h2, Qk⟩ := h
  exact ⟨_, rfl, _, rfl, n, -400, 400, rfl, h1, h2, true, rfl, iteN rfl ⟨_, rfl, n, rfl, fun p H1 e1 hp => ⟨p, _, rfl, hp, fun x H2 e2 hx => Qk x H2 (e1.trans e2) hx⟩⟩⟩
theorem cal_let (T : Txt K mg) : C8.Cal P w K mg base 7 "letter" (spLet K) [] := by
  obtain ⟨f, fd, F, hm⟩ := T.fn 19 (x := "letter") (i := 30) rfl rfl
  exact ⟨f, fd, _, [], ok_let T F, hm, F.kp, F.bindsN (fun _ _ _ _ _ _ us hl => match us, hl with | [_], _ => rfl), .nil⟩
/-! properties -/
def spLow (K : PySem.W.Frag) : Sp := fun vs H Q _ => ∃ (a : Addr) (r : Raw), vs = [.ref a] ∧ LauAt K H a r ∧ Q (.int r.1) H
theorem sc1 (j : Nat) (h : C8.scC ["self"] ["self"] (defScope (inL j)) = true) : FnScope ["self"] ["self"] (defScope (inL j)) := C8.fnScope_by h
theorem fn_low (T : Txt K mg) : FnB P w K mg base 1 (gtr K "lowest") (spLow K) := by
  refine fnB (k := 0) (N := ["self"]) (T.def_ 47 (d := dM (fun K => gtr K "lowest") "lowest" "Laurent.lowest" 2 []) rfl) (sc1 2 (by decide +kernel)) (fun _ _ _ _ _ _ us hl => match us, hl with | [_], _ => rfl) (fun vs H Q E h => by obtain ⟨_, _, rfl, _⟩ := h; rfl) (fun f cdv A outer s H vs Q E hr h => ?_)
  refine ⟨_, pss_one (ps_ret (pe_ix ix_tup (pe_fld (pv 0) rfl) pe_int (fun _ _ => rfl))), ?_⟩
  obtain ⟨a, r, rfl, ⟨dx, q, ha, t, hp, ht⟩, Qk⟩ := h
  exact ⟨_, rfl, a, LC K, dx, _, _, rfl, ha, T.cls.cl, T.nR, lk_raw, q, _, 0, _, rfl, rfl, hp, rfl, Qk⟩
def spHigh (K : PySem.W.Frag) : Sp := fun vs H Q _ => ∃ (a : Addr) (r : Raw), vs = [.ref a] ∧ LauAt K H a r ∧ ∀ H', Ext H H' → Q (.int (if r.2 = [] then 0 else r.1 + r.2.length - 1)) H'
theorem fn_high (T : Txt K mg) : FnB P w K mg base 2 (gtr K "highest") (spHigh K) := by
  refine fnB (k := 1) (N := ["self"]) (T.def_ 48 (d := dM (fun K => gtr K "highest") "highest" "Laurent.highest" 3 []) rfl) (sc1 3 (by decide +kernel)) (fun _ _ _ _ _ _ us hl => match us, hl with | [_], _ => rfl) (fun vs H Q E h => by obtain ⟨_, _, rfl, _⟩ := h; rfl) (fun f cdv A outer s H vs Q E hr h => ?_)
  refine ⟨_, pss_one (ps_ret (C8.pe_c (cal_rhi T) hr (by decide) (by rfl) (pa_cons (pe_fld (pv 0) rfl) pa_nil))), ?_⟩
  obtain ⟨a, r, rfl, ⟨dx, q, ha, hq⟩, Qk⟩ := h
  exact ⟨_, rfl, a, LC K, dx, _, _, rfl, ha, T.cls.cl, T.nR, lk_raw, q, r, rfl, hq, Qk⟩
def spCoefs (K : PySem.W.Frag) : Sp := fun vs H Q _ => ∃ (a : Addr) (r : Raw), vs = [.ref a] ∧ LauAt K H a r ∧ ∀ t, SqT K H t (r.2.map V.int) → Q (.ref t) H
theorem fn_coefs (T : Txt K mg) : FnB P w K mg base 1 (gtr K "coefficients") (spCoefs K) := by
  refine fnB (k := 0) (N := ["self"]) (T.def_ 49 (d := dM (fun K => gtr K "coefficients") "coefficients" "Laurent.coefficients" 4 []) rfl) (sc1 4 (by decide +kernel)) (fun _ _ _ _ _ _ us hl => match us, hl with | [_], _ => rfl) (fun vs H Q E h => by obtain ⟨_, _, rfl, _⟩ := h; rfl) (fun f cdv A outer s H vs Q E hr h => ?_)
  refine ⟨_, pss_one (ps_ret (pe_ix ix_tup (pe_fld (pv 0) rfl) pe_int (fun _ _ => rfl))), ?_⟩
  obtain ⟨a, r, rfl, ⟨dx, q, ha, t, hp, ht⟩, Qk⟩ := h
  exact ⟨_, rfl, a, LC K, dx, _, _, rfl, ha, T.cls.cl, T.nR, lk_raw, q, _, 1, _, rfl, rfl, hp, rfl, Qk t ht⟩
def spBar (K : PySem.W.Frag) : Sp := fun vs H Q _ => ∃ (a : Addr) (r : Raw), vs = [.ref a] ∧ LauAt K H a r ∧ Nrm r ∧ ∀ r' x H', Ext H H' → Nrm r' → (∀ k, rat r' k = rat r (-k)) → LauAt K H' x r' → Q (.ref x) H'
theorem fn_bar (T : Txt K mg) : FnB P w K mg base 7 (gtr K "barred") (spBar K) := by
  refine fnB (k := 6) (N := ["self"]) (T.def_ 50 (d := dM (fun K => gtr K "barred") "barred" "Laurent.barred" 5 []) rfl) (sc1 5 (by decide +kernel)) (fun _ _ _ _ _ _ us hl => match us, hl with | [_], _ => rfl) (fun vs H Q E h => by obtain ⟨_, _, rfl, _⟩ := h; rfl) (fun f cdv A outer s H vs Q E hr h => ?_)
  refine ⟨_, pss_one (ps_ret (C8.pe_c (cal_lof T) hr (by decide) (by rfl) (pa_cons (C8.pe_c (cal_rbar T) hr (by decide) (by rfl) (pa_cons (pe_fld (pv 0) rfl) pa_nil)) pa_nil))), ?_⟩
  obtain ⟨a, r, rfl, ⟨dx, q, ha, hq⟩, nr, Qk⟩ := h
  exact ⟨_, rfl, a, LC K, dx, _, _, rfl, ha, T.cls.cl, T.nR, lk_raw, q, r, rfl, hq, nr, fun r' p H1 e1 n' h' hp => ⟨p, r', rfl, hp, fun x H2 e2 hx => Qk r' x H2 (e1.trans e2) n' h' hx⟩⟩
def spTot (K : PySem.W.Frag) : Sp := fun vs H Q _ => ∃ (a : Addr) (r : Raw), vs = [.ref a] ∧ LauAt K H a r ∧ ∀ H', Ext H H' → Q (.int r.2.sum) H'
theorem fn_tot (T : Txt K mg) : FnB P w K mg base 1 (gtr K "total") (spTot K) := by
  refine fnB (k := 0) (N := ["self"]) (T.def_ 51 (d := dM (fun K => gtr K "total") "total" "Laurent.total" 6 []) rfl) (sc1 6 (by decide +kernel)) (fun _ _ _ _ _ _ us hl => match us, hl with | [_], _ => rfl) (fun vs H Q E h => by obtain ⟨_, _, rfl, _⟩ := h; rfl) (fun f cdv A outer s H vs Q E hr h => ?_)
  refine ⟨_, pss_one (ps_ret (pe_callB (cr_sum rfl) (by rfl) (T.free 16) (by decide +kernel) (pa_cons (pe_callTy call_list_of (by rfl) (T.free 9) (by decide +kernel) (pa_cons (pe_ix ix_tup (pe_fld (pv 0) rfl) pe_int (fun _ _ => rfl)) pa_nil)) pa_nil))), ?_⟩
  obtain ⟨a, r, rfl, ⟨dx, q, ha, t, hp, ht⟩, Qk⟩ := h
  exact ⟨_, rfl, a, LC K, dx, _, _, rfl, ha, T.cls.cl, T.nR, lk_raw, q, _, 1, _, rfl, rfl, hp, rfl, t, _, rfl, .inr ht, fun l hl => ⟨l, r.2, rfl, SqL.of upd_same, Qk _ (Ext.upd hl)⟩⟩
def spText (K : PySem.W.Frag) : Sp := fun vs H Q _ => ∃ (a : Addr) (r : Raw), vs = [.ref a] ∧ LauAt K H a r ∧ TB r ∧ ∀ H', Ext H H' → Q (.str (txt r)) H'
theorem fn_text (T : Txt K mg) : FnB P w K mg base 2 (gtr K "text") (spText K) := by
  refine fnB (k := 1) (N := ["self"]) (T.def_ 52 (d := dM (fun K => gtr K "text") "text" "Laurent.text" 7 []) rfl) (sc1 7 (by decide +kernel)) (fun _ _ _ _ _ _ us hl => match us, hl with | [_], _ => rfl) (fun vs H Q E h => by obtain ⟨_, _, rfl, _⟩ := h; rfl) (fun f cdv A outer s H vs Q E hr h => ?_)
  refine ⟨_, pss_one (ps_ret (C8.pe_c (cal_rtext T) hr (by decide) (by rfl) (pa_cons (pe_fld (pv 0) rfl) pa_nil))), ?_⟩
  obtain ⟨a, r, rfl, ⟨dx, q, ha, hq⟩, b, Qk⟩ := h
  exact ⟨_, rfl, a, LC K, dx, _, _, rfl, ha, T.cls.cl, T.nR, lk_raw, q, r, rfl, hq, b, Qk⟩
/-- a property read -/
theorem pe_pr {X : Cx} {k j : Nat} {m : Str} {sp : Sp} {e : Expr} {ta : TE} {pos : Pos} (T : Txt X.K X.mg) (n : Nat) (h2 : propNames[n]? = some m) (c : FnB X.prog X.w X.K X.mg X.base k (gtr X.K m) sp) (hr : Room j X.A) (hk : k + 1 ≤ j) (he : PE X e ta) (hab : attributeBase e m X.env (eval e X.env) = eval e X.env) : PE X (.Attribute e m pos) (tProp (LC X.K) sp [] E0 ta) := by
  obtain ⟨fd, ps, F, b⟩ := c.ex
  exact pe_prop he T.cls.cl (T.prop n h2) F (hr.mono hk) b .nil pass0 hab
end
end Lau
end
section
/-! ## part D11 -/
set_option maxHeartbeats 4000000
namespace Lau
open PySem PySem.Spec PyProof.Rows L2
section
variable {P : Program} {w : World} {K : PySem.W.Frag} {mg : Str → Option Value} {base : Heap}
/-- a binary operator of the class -/
def spB (K : PySem.W.Frag) (F : Raw → (Int → Int) → Int → Int) : Sp := fun vs H Q _ => ∃ (a : Addr) (y : V) (r : Raw) (g : Int → Int), vs = [.ref a, y] ∧ LauAt K H a r ∧ Nrm r ∧ Big r ∧ Sm64 r ∧ Opd K H y g ∧
  ∀ r2 x H', Ext H H' → Nrm r2 → (∀ k, rat r2 k = F r g k) → LauAt K H' x r2 → Q (.ref x) H'
theorem sc_add : FnScope ["self", "other", "mate"] ["self", "other"] (defScope (inL 10)) := C8.fnScope_by (by decide +kernel)
theorem fn_add (T : Txt K mg) : FnB P w K mg base 7 (He.ma K (LC K) "__add__") (spB K fun r g k => rat r k + g k) := by
  refine fnB (k := 6) (T.def_ 37 (d := dM (fun K => He.ma K (LC K) "__add__") "__add__" "Laurent.__add__" 10 []) rfl) sc_add (fun _ _ _ _ _ _ us hl => match us, hl with | [_, _], _ => rfl) (fun vs H Q E h => by obtain ⟨_, _, _, _, rfl, _⟩ := h; rfl) (fun f cdv A outer s H vs Q E hr h => ?_)
  refine ⟨_, pss_cons (ps_set (i := 2) sc_add.nd rfl (Or.inl rfl) (C8.pe_c (cal_mate T) hr (by decide) (by rfl) (pa_cons (pv 1) pa_nil)))
    (pss_cons (ps_if (pt_cmpR op_isN (pv 2) pe_non (nomark _)) pss_never pss_nil)
    (pss_one (ps_ret (C8.pe_c (cal_lof T) hr (by decide) (by rfl) (pa_cons (C8.pe_c (cal_rsum T) hr (by decide) (by rfl) (pa_cons (pe_fld (pv 0) rfl) (pa_cons (pv 2) pa_nil))) pa_nil))))), ?_⟩
  obtain ⟨a, y, r, g, rfl, ⟨dx, p, ha, hp⟩, nr, br, sr, hy, Qk⟩ := h
  refine ⟨_, rfl, y, g, rfl, hy, fun m q H1 e1 hq nm bm sm hg => ⟨_, rfl, rfl, _, rfl, iteN (by simp) ?_⟩⟩
  refine ⟨_, rfl, a, LC K, dx, _, _, rfl, e1 _ _ ha, T.cls.cl, T.nR, lk_raw, _, rfl, p, q, r, m, rfl, hp.ext e1, hq, nr, nm, br, bm, fun r2 x H2 e2 n2 h2 hx => ⟨x, r2, rfl, hx, fun z H3 e3 hz => ?_⟩⟩
  exact Qk r2 z H3 ((e1.trans e2).trans e3) n2 (fun k => by rw [h2, hg]) hz
theorem sc_radd : FnScope ["self", "other", "mate"] ["self", "other"] (defScope (inL 11)) := C8.fnScope_by (by decide +kernel)
theorem fn_radd (T : Txt K mg) : FnB P w K mg base 7 (He.ma K (LC K) "__radd__") (spB K fun r g k => rat r k + g k) := by
  refine fnB (k := 6) (T.def_ 38 (d := dM (fun K => He.ma K (LC K) "__radd__") "__radd__" "Laurent.__radd__" 11 []) rfl) sc_radd (fun _ _ _ _ _ _ us hl => match us, hl with | [_, _], _ => rfl) (fun vs H Q E h => by obtain ⟨_, _, _, _, rfl, _⟩ := h; rfl) (fun f cdv A outer s H vs Q E hr h => ?_)
  refine ⟨_, pss_cons (ps_set (i := 2) sc_radd.nd rfl (Or.inl rfl) (C8.pe_c (cal_mate T) hr (by decide) (by rfl) (pa_cons (pv 1) pa_nil)))
    (pss_cons (ps_if (pt_cmpR op_isN (pv 2) pe_non (nomark _)) pss_never pss_nil)
    (pss_one (ps_ret (C8.pe_c (cal_lof T) hr (by decide) (by rfl) (pa_cons (C8.pe_c (cal_rsum T) hr (by decide) (by rfl) (pa_cons (pe_fld (pv 0) rfl) (pa_cons (pv 2) pa_nil))) pa_nil))))), ?_⟩
  obtain ⟨a, y, r, g, rfl, ⟨dx, p, ha, hp⟩, nr, br, sr, hy, Qk⟩ := h
  refine ⟨_, rfl, y, g, rfl, hy, fun m q H1 e1 hq nm bm sm hg => ⟨_, rfl, rfl, _, rfl, iteN (by simp) ?_⟩⟩
  refine ⟨_, rfl, a, LC K, dx, _, _, rfl, e1 _ _ ha, T.cls.cl, T.nR, lk_raw, _, rfl, p, q, r, m, rfl, hp.ext e1, hq, nr, nm, br, bm, fun r2 x H2 e2 n2 h2 hx => ⟨x, r2, rfl, hx, fun z H3 e3 hz => ?_⟩⟩
  exact Qk r2 z H3 ((e1.trans e2).trans e3) n2 (fun k => by rw [h2, hg]) hz
theorem sc_sub : FnScope ["self", "other", "mate"] ["self", "other"] (defScope (inL 12)) := C8.fnScope_by (by decide +kernel)
theorem fn_sub (T : Txt K mg) : FnB P w K mg base 7 (He.ma K (LC K) "__sub__") (spB K fun r g k => rat r k - g k) := by
  refine fnB (k := 6) (T.def_ 39 (d := dM (fun K => He.ma K (LC K) "__sub__") "__sub__" "Laurent.__sub__" 12 []) rfl) sc_sub (fun _ _ _ _ _ _ us hl => match us, hl with | [_, _], _ => rfl) (fun vs H Q E h => by obtain ⟨_, _, _, _, rfl, _⟩ := h; rfl) (fun f cdv A outer s H vs Q E hr h => ?_)
  refine ⟨_, pss_cons (ps_set (i := 2) sc_sub.nd rfl (Or.inl rfl) (C8.pe_c (cal_mate T) hr (by decide) (by rfl) (pa_cons (pv 1) pa_nil)))
    (pss_cons (ps_if (pt_cmpR op_isN (pv 2) pe_non (nomark _)) pss_never pss_nil)
    (pss_one (ps_ret (C8.pe_c (cal_lof T) hr (by decide) (by rfl) (pa_cons (C8.pe_c (cal_rdif T) hr (by decide) (by rfl) (pa_cons (pe_fld (pv 0) rfl) (pa_cons (pv 2) pa_nil))) pa_nil))))), ?_⟩
  obtain ⟨a, y, r, g, rfl, ⟨dx, p, ha, hp⟩, nr, br, sr, hy, Qk⟩ := h
  refine ⟨_, rfl, y, g, rfl, hy, fun m q H1 e1 hq nm bm sm hg => ⟨_, rfl, rfl, _, rfl, iteN (by simp) ?_⟩⟩
  refine ⟨_, rfl, a, LC K, dx, _, _, rfl, e1 _ _ ha, T.cls.cl, T.nR, lk_raw, _, rfl, p, q, r, m, rfl, hp.ext e1, hq, nr, nm, br, bm, fun r2 x H2 e2 n2 h2 hx => ⟨x, r2, rfl, hx, fun z H3 e3 hz => ?_⟩⟩
  exact Qk r2 z H3 ((e1.trans e2).trans e3) n2 (fun k => by rw [h2, hg]) hz
theorem sc_rsub : FnScope ["self", "other", "mate"] ["self", "other"] (defScope (inL 13)) := C8.fnScope_by (by decide +kernel)
theorem fn_rsub (T : Txt K mg) : FnB P w K mg base 7 (He.ma K (LC K) "__rsub__") (spB K fun r g k => g k - rat r k) := by
  refine fnB (k := 6) (T.def_ 40 (d := dM (fun K => He.ma K (LC K) "__rsub__") "__rsub__" "Laurent.__rsub__" 13 []) rfl) sc_rsub (fun _ _ _ _ _ _ us hl => match us, hl with | [_, _], _ => rfl) (fun vs H Q E h => by obtain ⟨_, _, _, _, rfl, _⟩ := h; rfl) (fun f cdv A outer s H vs Q E hr h => ?_)
  refine ⟨_, pss_cons (ps_set (i := 2) sc_rsub.nd rfl (Or.inl rfl) (C8.pe_c (cal_mate T) hr (by decide) (by rfl) (pa_cons (pv 1) pa_nil)))
    (pss_cons (ps_if (pt_cmpR op_isN (pv 2) pe_non (nomark _)) pss_never pss_nil)
    (pss_one (ps_ret (C8.pe_c (cal_lof T) hr (by decide) (by rfl) (pa_cons (C8.pe_c (cal_rdif T) hr (by decide) (by rfl) (pa_cons (pv 2) (pa_cons (pe_fld (pv 0) rfl) pa_nil))) pa_nil))))), ?_⟩
  obtain ⟨a, y, r, g, rfl, ⟨dx, p, ha, hp⟩, nr, br, sr, hy, Qk⟩ := h
  refine ⟨_, rfl, y, g, rfl, hy, fun m q H1 e1 hq nm bm sm hg => ⟨_, rfl, rfl, _, rfl, iteN (by simp) ?_⟩⟩
  refine ⟨_, rfl, _, rfl, a, LC K, dx, _, _, rfl, e1 _ _ ha, T.cls.cl, T.nR, lk_raw, q, p, m, r, rfl, hq, hp.ext e1, nm, nr, bm, br, fun r2 x H2 e2 n2 h2 hx => ⟨x, r2, rfl, hx, fun z H3 e3 hz => ?_⟩⟩
  exact Qk r2 z H3 ((e1.trans e2).trans e3) n2 (fun k => by rw [h2, hg]) hz
theorem sc_mul : FnScope ["self", "other", "mate"] ["self", "other"] (defScope (inL 14)) := C8.fnScope_by (by decide +kernel)
theorem fn_mul (T : Txt K mg) : FnB P w K mg base 7 (He.ma K (LC K) "__mul__") (spB K fun r g k => cv (rowE r.1 r.2) g k) := by
  refine fnB (k := 6) (T.def_ 41 (d := dM (fun K => He.ma K (LC K) "__mul__") "__mul__" "Laurent.__mul__" 14 []) rfl) sc_mul (fun _ _ _ _ _ _ us hl => match us, hl with | [_, _], _ => rfl) (fun vs H Q E h => by obtain ⟨_, _, _, _, rfl, _⟩ := h; rfl) (fun f cdv A outer s H vs Q E hr h => ?_)
  refine ⟨_, pss_cons (ps_set (i := 2) sc_mul.nd rfl (Or.inl rfl) (C8.pe_c (cal_mate T) hr (by decide) (by rfl) (pa_cons (pv 1) pa_nil)))
    (pss_cons (ps_if (pt_cmpR op_isN (pv 2) pe_non (nomark _)) pss_never pss_nil)
    (pss_one (ps_ret (C8.pe_c (cal_lof T) hr (by decide) (by rfl) (pa_cons (C8.pe_c (cal_rprod T) hr (by decide) (by rfl) (pa_cons (pe_fld (pv 0) rfl) (pa_cons (pv 2) pa_nil))) pa_nil))))), ?_⟩
  obtain ⟨a, y, r, g, rfl, ⟨dx, p, ha, hp⟩, nr, br, sr, hy, Qk⟩ := h
  refine ⟨_, rfl, y, g, rfl, hy, fun m q H1 e1 hq nm bm sm hg => ⟨_, rfl, rfl, _, rfl, iteN (by simp) ?_⟩⟩
  refine ⟨_, rfl, a, LC K, dx, _, _, rfl, e1 _ _ ha, T.cls.cl, T.nR, lk_raw, _, rfl, p, q, r, m, rfl, hp.ext e1, hq, br.2.2, bm.2.2, sm, fun r2 x H2 e2 n2 h2 _ hx => ⟨x, r2, rfl, hx, fun z H3 e3 hz => ?_⟩⟩
  exact Qk r2 z H3 ((e1.trans e2).trans e3) n2 (fun k => by rw [h2]; exact cv_congr hg k) hz
theorem sc_rmul : FnScope ["self", "other", "mate"] ["self", "other"] (defScope (inL 15)) := C8.fnScope_by (by decide +kernel)
theorem fn_rmul (T : Txt K mg) : FnB P w K mg base 7 (He.ma K (LC K) "__rmul__") (spB K fun r g k => cv (rowE r.1 r.2) g k) := by
  refine fnB (k := 6) (T.def_ 42 (d := dM (fun K => He.ma K (LC K) "__rmul__") "__rmul__" "Laurent.__rmul__" 15 []) rfl) sc_rmul (fun _ _ _ _ _ _ us hl => match us, hl with | [_, _], _ => rfl) (fun vs H Q E h => by obtain ⟨_, _, _, _, rfl, _⟩ := h; rfl) (fun f cdv A outer s H vs Q E hr h => ?_)
  refine ⟨_, pss_cons (ps_set (i := 2) sc_rmul.nd rfl (Or.inl rfl) (C8.pe_c (cal_mate T) hr (by decide) (by rfl) (pa_cons (pv 1) pa_nil)))
    (pss_cons (ps_if (pt_cmpR op_isN (pv 2) pe_non (nomark _)) pss_never pss_nil)
    (pss_one (ps_ret (C8.pe_c (cal_lof T) hr (by decide) (by rfl) (pa_cons (C8.pe_c (cal_rprod T) hr (by decide) (by rfl) (pa_cons (pe_fld (pv 0) rfl) (pa_cons (pv 2) pa_nil))) pa_nil))))), ?_⟩
  obtain ⟨a, y, r, g, rfl, ⟨dx, p, ha, hp⟩, nr, br, sr, hy, Qk⟩ := h
  refine ⟨_, rfl, y, g, rfl, hy, fun m q H1 e1 hq nm bm sm hg => ⟨_, rfl, rfl, _, rfl, iteN (by simp) ?_⟩⟩
  refine ⟨_, rfl, a, LC K, dx, _, _, rfl, e1 _ _ ha, T.cls.cl, T.nR, lk_raw, _, rfl, p, q, r, m, rfl, hp.ext e1, hq, br.2.2, bm.2.2, sm, fun r2 x H2 e2 n2 h2 _ hx => ⟨x, r2, rfl, hx, fun z H3 e3 hz => ?_⟩⟩
  exact Qk r2 z H3 ((e1.trans e2).trans e3) n2 (fun k => by rw [h2]; exact cv_congr hg k) hz
end
end Lau
end
section
/-! ## part D12 -/
set_option maxHeartbeats 4000000
namespace Lau
open PySem PySem.Spec PyProof.Rows L2
theorem lk_no {m : Str} {q : V} (h : (m == ("_raw" : Str)) = false) : List.lookup m [(("_raw" : Str), q)] = none := by
  simp only [List.lookup, h]
section
variable {P : Program} {w : World} {K : PySem.W.Frag} {mg : Str → Option Value} {base : Heap}
/-- __eq__ -/
def spEqL (K : PySem.W.Frag) : Sp := fun vs H Q _ => ∃ (a : Addr) (y : V) (r : Raw), vs = [.ref a, y] ∧ LauAt K H a r ∧
  ((∃ b r', y = .ref b ∧ LauAt K H b r' ∧ Q (.bl (decide (r = r'))) H) ∨ (((∃ i, y = .int i) ∨ ∃ z, y = .str z) ∧ Q (.bl false) H))
theorem scEqL : FnScope ["self", "other"] ["self", "other"] (defScope (inL 8)) := C8.fnScope_by (by decide +kernel)
theorem fn_eq (T : Txt K mg) : FnB P w K mg base 3 (He.ma K (LC K) "__eq__") (spEqL K) := by
  refine fnB (k := 2) (T.def_ 35 (d := dM (fun K => He.ma K (LC K) "__eq__") "__eq__" "Laurent.__eq__" 8 []) rfl) scEqL (fun _ _ _ _ _ _ us hl => match us, hl with | [_, _], _ => rfl) (fun vs H Q E h => by obtain ⟨_, _, _, rfl, _⟩ := h; rfl) (fun f cdv A outer s H vs Q E hr h => ?_)
  refine ⟨_, pss_one (ps_ret (pe_and (pe_callB call_isi (by rfl) (T.free 7) (by decide +kernel) (pa_cons (pv 1) (pa_cons (pe_glob (v := .ref (LC K)) (by rfl) T.gC rfl) pa_nil)))
    (pe_and (pe_cmpR op_eq (pe_pr T 0 rfl (fn_low T) hr (by decide) (pv 0) rfl) (pe_pr T 0 rfl (fn_low T) hr (by decide) (pv 1) rfl) (nomark _))
    (pe_one (pe_cmpR (op_eqD hr.units) (pe_pr T 2 rfl (fn_coefs T) hr (by decide) (pv 0) rfl) (pe_pr T 2 rfl (fn_coefs T) hr (by decide) (pv 1) rfl) (nomark _)))))), ?_⟩
  obtain ⟨a, y, r, rfl, hL, hy⟩ := h
  rcases hy with ⟨b, r', rfl, hL', Qk⟩ | ⟨hy, Qk⟩
  · obtain ⟨dx, p, ha, hp⟩ := id hL
    obtain ⟨dy, p', hb, hp'⟩ := id hL'
    refine ⟨_, rfl, _, _, .ref (LC K), .ref (LC K), true, rfl, .own _, .base (.ins hb T.cls.cl T.cls.ha T.cls.hn T.cls.htk T.cls.hm), T.cls.me, true, rfl, iteT ⟨_, rfl, a, dx, _, rfl, ha, a, r, rfl, hL, _, rfl, b, dy, _, rfl, hb, b, r', rfl, hL', rfl, _, rfl, ?_⟩⟩
    by_cases e1 : r.1 = r'.1
    · refine iteY (decide_eq_true (by rw [e1])) ⟨_, rfl, a, dx, _, rfl, ha, a, r, rfl, hL, fun t ht => ⟨_, rfl, b, dy, _, rfl, hb, b, r', rfl, hL', fun t' ht' => eqT ht ht' ?_⟩⟩
      have e : decide (r = r') = decide (r.2 = r'.2) := by
        by_cases z : r.2 = r'.2
        · rw [decide_eq_true z, decide_eq_true (Prod.ext e1 z)]
        · rw [decide_eq_false z, decide_eq_false (fun q => z (by rw [q]))]
      rw [e] at Qk
      exact Qk
    · refine iteN (decide_eq_false (fun z => e1 (V.int.inj z))) ?_
      rw [decide_eq_false (fun q => e1 (by rw [q]))] at Qk
      exact Qk
  · rcases hy with ⟨i, rfl⟩ | ⟨z, rfl⟩
    · exact ⟨_, rfl, _, _, .type "int", .ref (LC K), false, rfl, .own _, .base (.int i), T.cls.kInt, false, rfl, iteF Qk⟩
    · exact ⟨_, rfl, _, _, .type "str", .ref (LC K), false, rfl, .own _, .base (.str z), T.cls.kStr, false, rfl, iteF Qk⟩
/-- __bool__ -/
def spBoolL (K : PySem.W.Frag) : Sp := fun vs H Q _ => ∃ (a : Addr) (r : Raw), vs = [.ref a] ∧ LauAt K H a r ∧ Q (.bl (!decide (r.2 = []))) H
theorem fn_bool (T : Txt K mg) : FnB P w K mg base 1 (He.ma K (LC K) "__bool__") (spBoolL K) := by
  refine fnB (k := 0) (N := ["self"]) (T.def_ 36 (d := dM (fun K => He.ma K (LC K) "__bool__") "__bool__" "Laurent.__bool__" 9 []) rfl) (sc1 9 (by decide +kernel)) (fun _ _ _ _ _ _ us hl => match us, hl with | [_], _ => rfl) (fun vs H Q E h => by obtain ⟨_, _, rfl, _⟩ := h; rfl) (fun f cdv A outer s H vs Q E hr h => ?_)
  refine ⟨_, pss_one (ps_ret (pe_callTy call_bool1 (by rfl) (T.free 2) (by decide +kernel) (pa_cons (pe_cmpR op_gt (pe_callB call_len_seq (by rfl) (T.free 8) (by decide +kernel) (pa_cons (pe_ix ix_tup (pe_fld (pv 0) rfl) pe_int (fun _ _ => rfl)) pa_nil)) pe_int (nomark _)) pa_nil))), ?_⟩
  obtain ⟨a, r, rfl, ⟨dx, q, ha, t, hp, ht⟩, Qk⟩ := h
  refine ⟨_, rfl, a, LC K, dx, _, _, rfl, ha, T.cls.cl, T.nR, lk_raw, q, _, 1, _, rfl, rfl, hp, rfl, t, _, rfl, .inr ht, _, _, rfl, rfl, .inr ⟨_, rfl, ?_⟩⟩
  have e : decide ((0 : Int) < ((r.2.map V.int).length : Int)) = !decide (r.2 = []) := by
    rw [List.length_map]
    cases r.2 <;> simp
  exact (show Q (.bl (decide ((0 : Int) < ((r.2.map V.int).length : Int)))) H from by rw [e]; exact Qk)
/-- __neg__ -/
def spNeg (K : PySem.W.Frag) : Sp := fun vs H Q _ => ∃ (a : Addr) (r : Raw), vs = [.ref a] ∧ LauAt K H a r ∧ r.2.length ≤ 1000000 ∧ ∀ x H', Ext H H' → LauAt K H' x (r.1, r.2.map fun c => -c) → Q (.ref x) H'
theorem fn_neg (T : Txt K mg) : FnB P w K mg base 7 (He.ma K (LC K) "__neg__") (spNeg K) := by
  refine fnB (k := 6) (N := ["self"]) (T.def_ 43 (d := dM (fun K => He.ma K (LC K) "__neg__") "__neg__" "Laurent.__neg__" 16 []) rfl) (sc1 16 (by decide +kernel)) (fun _ _ _ _ _ _ us hl => match us, hl with | [_], _ => rfl) (fun vs H Q E h => by obtain ⟨_, _, rfl, _⟩ := h; rfl) (fun f cdv A outer s H vs Q E hr h => ?_)
  refine ⟨_, pss_one (ps_ret (C8.pe_c (cal_lof T) hr (by decide) (by rfl) (pa_cons (C8.pe_c (cal_ropp T) hr (by decide) (by rfl) (pa_cons (pe_fld (pv 0) rfl) pa_nil)) pa_nil))), ?_⟩
  obtain ⟨a, r, rfl, ⟨dx, q, ha, hq⟩, hl, Qk⟩ := h
  exact ⟨_, rfl, a, LC K, dx, _, _, rfl, ha, T.cls.cl, T.nR, lk_raw, q, r, rfl, hq, hl, fun p H1 e1 hp => ⟨p, _, rfl, hp, fun x H2 e2 hx => Qk x H2 (e1.trans e2) hx⟩⟩
/-- power -/
def spPow (K : PySem.W.Frag) : Sp := fun vs H Q _ => ∃ (a : Addr) (n : Nat) (r : Raw), vs = [.ref a, .int n] ∧ n ≤ 64 ∧ LauAt K H a r ∧ Sm64 r ∧ r.2.length ≤ 1000 ∧
  ∀ r2 x H', Ext H H' → Nrm r2 → (∀ k, rat r2 k = pwF (rowE r.1 r.2) n k) → LauAt K H' x r2 → Q (.ref x) H'
abbrev nmPow : List Str := ["self", "exponent", "found", "turn"]
theorem scPow : FnScope nmPow ["self", "exponent"] (defScope (inL 18)) := C8.fnScope_by (by decide +kernel)
theorem funPow (T : Txt K mg) : ∃ fd, FunD K "power" "Laurent.power" (defArgs (inL 18)) (defBody (inL 18)) (defScope (inL 18)) [] [] (He.ma K (LC K) "power") fd := T.def_ 45 (d := dM (fun K => He.ma K (LC K) "power") "power" "Laurent.power" 18 []) rfl
theorem ok_pow (T : Txt K mg) {fd : FuncData} (F : FunD K "power" "Laurent.power" (defArgs (inL 18)) (defBody (inL 18)) (defScope (inL 18)) [] [] (He.ma K (LC K) "power") fd) : FnOk P w K mg base CX0 7 (He.ma K (LC K) "power") fd ["self", "exponent"] (spPow K) := by
  obtain ⟨tk, h64⟩ := T.p64
  refine F.ok scPow (fun vs H Q E h => by obtain ⟨_, _, _, rfl, _⟩ := h; rfl) (fun cdv A outer s H vs Q E hr h => ⟨_, PSs.nox (pss_cons (ps_if (pt_not (pt_val (C8.pe_c (cal_isb T) hr (by decide) (by rfl) (pa_cons (pv 1) (pa_cons pe_int (pa_cons (pe_glob (v := .int 64) (by rfl) h64 ⟨_, rfl⟩) pa_nil)))))) pss_never pss_nil)
    (pss_cons (ps_set (i := 2) scPow.nd rfl (Or.inl rfl) (C8.pe_c (cal_rwh T) hr (by decide) (by rfl) (pa_cons pe_int pa_nil)))
    (pss_cons (ps_for PassesOwn.never rfl (pi_range1 (by rfl) (T.free 12) (pa_cons (pv 1) pa_nil)) (pg_name (i := 3) scPow.nd rfl (Or.inl rfl))
        (pss_one (ps_set (i := 2) scPow.nd rfl (Or.inl rfl) (C8.pe_c (cal_rprod T) hr (by decide) (by rfl) (pa_cons (pv 2) (pa_cons (pe_fld (pv 0) rfl) pa_nil))))))
    (pss_one (ps_ret (C8.pe_c (cal_lof T) hr (by decide) (by rfl) (pa_cons (pv 2) pa_nil))))))), ?_⟩)
  obtain ⟨a, n, r, rfl, hn, ⟨dx, q, ha, hq⟩, sr, hl, Qk⟩ := h
  refine ⟨_, rfl, n, 0, 64, rfl, by omega, by omega, true, rfl, iteN rfl ⟨1, rfl, fun r0 p0 H1 e1 n0 h0 l0 hp0 => ?_⟩⟩
  refine ⟨_, rfl, n, rfl, by omega, by omega, for_range (n := n) (fun t σ H' => Ext H H' ∧ ∃ (p : Addr) (fr : Raw) (v3 : Option V), RawAt K H' p fr ∧ Nrm fr ∧ (∀ k, rat fr k = pwF (rowE r.1 r.2) t k) ∧ fr.2.length ≤ 1 + 1000 * t ∧
    σ = [some (.ref a), some (.int n), some (.ref p), v3]) ⟨e1, p0, r0, none, hp0, n0, fun k => ?_, by omega, rfl⟩ (fun t σ H' ht pv => ?_) (fun σ H' pv => ?_)⟩
  · rw [h0, rat_one]
    rfl
  · obtain ⟨e2, p, fr, v3, hp, nf, hf, lf, rfl⟩ := pv
    refine ⟨_, rfl, _, rfl, a, LC K, dx, _, _, rfl, e2 _ _ ha, T.cls.cl, T.nR, lk_raw, p, q, fr, r, rfl, hp, hq.ext e2, by omega, by omega, sr, fun r2 x H2 e3 n2 h2 l2 hx => ?_⟩
    refine ⟨e2.trans e3, x, r2, _, hx, n2, fun k => ?_, by omega, rfl⟩
    rw [h2, cv_congr (fun k => (ev_row r.2 r.1 k).symm), cv_symm, cv_congr (fun k => (ev_row fr.2 fr.1 k).trans (hf k))]
    rfl
  · obtain ⟨e2, p, fr, v3, hp, nf, hf, lf, rfl⟩ := pv
    exact ⟨_, rfl, p, fr, rfl, hp, fun x H2 e3 hx => Qk fr x H2 (e2.trans e3) nf hf hx⟩
theorem fn_power (T : Txt K mg) : FnB P w K mg base 7 (He.ma K (LC K) "power") (spPow K) := by
  obtain ⟨fd, F⟩ := funPow T
  exact ⟨fd, _, ok_pow T F, F.bindsN (fun _ _ _ _ _ _ us hl => match us, hl with | [_, _], _ => rfl)⟩
/-- a method called -/
theorem metL (T : Txt K mg) {k : Nat} {m : Str} {sp : Sp} (n : Nat) (h2 : metNames[n]? = some m) (c : FnB P w K mg base k (He.ma K (LC K) m) sp) : C8.Met P w K mg base k (LC K) m sp [] := by
  obtain ⟨fd, ps, F, b⟩ := c.ex
  exact ⟨_, fd, ps, [], T.cls.cl, T.met n h2, F, b, .nil⟩
/-- __pow__ -/
theorem scPow2 : FnScope ["self", "other"] ["self", "other"] (defScope (inL 17)) := C8.fnScope_by (by decide +kernel)
theorem fn_pow (T : Txt K mg) : FnB P w K mg base 8 (He.ma K (LC K) "__pow__") (spPow K) := by
  refine fnB (k := 7) (T.def_ 44 (d := dM (fun K => He.ma K (LC K) "__pow__") "__pow__" "Laurent.__pow__" 17 []) rfl) scPow2 (fun _ _ _ _ _ _ us hl => match us, hl with | [_, _], _ => rfl) (fun vs H Q E h => by obtain ⟨_, _, _, rfl, _⟩ := h; rfl) (fun f cdv A outer s H vs Q E hr h => ?_)
  refine ⟨_, pss_one (ps_ret (C8.pe_mt (metL T 11 rfl (fn_power T)) hr (by decide) (pv 0) (pa_cons (pv 1) pa_nil))), ?_⟩
  obtain ⟨a, n, r, rfl, hn, hL, rest⟩ := h
  obtain ⟨dx, q, ha, hq⟩ := id hL
  exact ⟨_, rfl, a, dx, _, rfl, ha, lk_no (by decide +kernel), _, rfl, a, n, r, rfl, hn, hL, rest⟩
/-- coefficient -/
def spCo (K : PySem.W.Frag) : Sp := fun vs H Q _ => ∃ (a : Addr) (k : Int) (r : Raw), vs = [.ref a, .int k] ∧ LauAt K H a r ∧ Q (.int (rat r k)) H
theorem scCo : FnScope ["self", "power"] ["self", "power"] (defScope (inL 19)) := C8.fnScope_by (by decide +kernel)
theorem funCo (T : Txt K mg) : ∃ fd, FunD K "coefficient" "Laurent.coefficient" (defArgs (inL 19)) (defBody (inL 19)) (defScope (inL 19)) [] [] (He.ma K (LC K) "coefficient") fd := T.def_ 46 (d := dM (fun K => He.ma K (LC K) "coefficient") "coefficient" "Laurent.coefficient" 19 []) rfl
theorem ok_co (T : Txt K mg) {fd : FuncData} (F : FunD K "coefficient" "Laurent.coefficient" (defArgs (inL 19)) (defBody (inL 19)) (defScope (inL 19)) [] [] (He.ma K (LC K) "coefficient") fd) : FnOk P w K mg base CX0 2 (He.ma K (LC K) "coefficient") fd ["self", "power"] (spCo K) := by
  refine F.ok scCo (fun vs H Q E h => by obtain ⟨_, _, _, rfl, _⟩ := h; rfl) (fun cdv A outer s H vs Q E hr h => ⟨_, PSs.nox (pss_cons (ps_if (pt_not (pt_val (C8.pe_c (cal_isw T) hr (by decide) (by rfl) (pa_cons (pv 1) pa_nil)))) pss_never pss_nil)
    (pss_one (ps_ret (C8.pe_c (cal_rcoef T) hr (by decide) (by rfl) (pa_cons (pe_fld (pv 0) rfl) (pa_cons (pv 1) pa_nil)))))), ?_⟩)
  obtain ⟨a, k, r, rfl, ⟨dx, q, ha, hq⟩, Qk⟩ := h
  exact ⟨_, rfl, k, rfl, true, rfl, iteN rfl ⟨_, rfl, a, LC K, dx, _, _, rfl, ha, T.cls.cl, T.nR, lk_raw, _, rfl, q, r, k, rfl, hq, Qk⟩⟩
theorem fn_co (T : Txt K mg) : FnB P w K mg base 2 (He.ma K (LC K) "coefficient") (spCo K) := by
  obtain ⟨fd, F⟩ := funCo T
  exact ⟨fd, _, ok_co T F, F.bindsN (fun _ _ _ _ _ _ us hl => match us, hl with | [_, _], _ => rfl)⟩
/-- read -/
def spRead (K : PySem.W.Frag) : Sp := fun vs H Q _ => ∃ r : Raw, vs = [.str (txt r)] ∧ Nrm r ∧ TB r ∧ (∀ k, rat r k ≠ 0 → -400 ≤ k ∧ k ≤ 400) ∧ ∀ x H', Ext H H' → LauAt K H' x r → Q (.ref x) H'
theorem scRead : FnScope ["text", "found"] ["text"] (defScope (inL 1)) := C8.fnScope_by (by decide +kernel)
theorem funRead (T : Txt K mg) : ∃ fd, FunD K "read" "Laurent.read" (defArgs (inL 1)) (defBody (inL 1)) (defScope (inL 1)) [] [] (He5.wf K (LC K) "staticmethod" "read") fd := T.def_ 53 (d := dM (fun K => He5.wf K (LC K) "staticmethod" "read") "read" "Laurent.read" 1 []) rfl
theorem ok_read (T : Txt K mg) {fd : FuncData} (F : FunD K "read" "Laurent.read" (defArgs (inL 1)) (defBody (inL 1)) (defScope (inL 1)) [] [] (He5.wf K (LC K) "staticmethod" "read") fd) : FnOk P w K mg base CX0 7 (He5.wf K (LC K) "staticmethod" "read") fd ["text"] (spRead K) := by
  obtain ⟨tk, h400⟩ := T.l400
  refine F.ok scRead (fun vs H Q E h => by obtain ⟨_, rfl, _⟩ := h; rfl) (fun cdv A outer s H vs Q E hr h => ⟨_, PSs.nox (pss_cons (ps_set (i := 1) scRead.nd rfl (Or.inl rfl) (pe_ifExp (pt_val (pe_callB call_isi (by rfl) (T.free 7) (by decide +kernel) (pa_cons (pv 0) (pa_cons (pe_bltn (v := .ty "str") (by rfl) (T.free 15) (by decide +kernel) rfl) pa_nil))))
      (C8.pe_c (cal_rin T) hr (by decide) (by rfl) (pa_cons (pv 0) (pa_cons (pe_glob (v := .int 400) (by rfl) h400 ⟨_, rfl⟩) pa_nil))) pe_non))
    (pss_cons (ps_if (pt_cmpR op_isN (pv 1) pe_non (nomark _)) pss_never pss_nil)
    (pss_one (ps_ret (C8.pe_c (cal_lof T) hr (by decide) (by rfl) (pa_cons (pv 1) pa_nil)))))), ?_⟩)
  obtain ⟨r, rfl, nr, b, hk, Qk⟩ := h
  exact ⟨_, rfl, _, _, .type "str", _, true, rfl, .ty "str", .base (.str _), kit_ty (by decide +kernel), true, rfl, iteT ⟨_, rfl, r, rfl, nr, b, hk, fun p H1 e1 hp => ⟨_, rfl, rfl, _, rfl, iteN (by simp) ⟨_, rfl, p, r, rfl, hp, fun x H2 e2 hx => Qk x H2 (e1.trans e2) hx⟩⟩⟩⟩
end
end Lau
end
section
/-! ## part L1 -/
set_option maxHeartbeats 4000000
namespace Lau
open PySem PySem.Spec PyProof.Rows L2
/-- the law's well: what is left of its own number, a state, a count -/
def WellAt (H : Hp) (w : Addr) : Prop := ∃ a s c : Int, H w = some (.lst [.int a, .int s, .int c])
/-- all that was tracked stands, but w -/
def Off (w : Addr) (H H' : Hp) : Prop := ∀ a o, a ≠ w → H a = some o → H' a = some o
theorem Off.refl {w : Addr} {H : Hp} : Off w H H := fun _ _ _ h => h
theorem Off.trans {w : Addr} {H H1 H2 : Hp} (a : Off w H H1) (b : Off w H1 H2) : Off w H H2 := fun c o n h => b c o n (a c o n h)
theorem Off.of {w : Addr} {H H' : Hp} (e : Ext H H') : Off w H H' := fun a o _ h => e a o h
theorem Off.put {w : Addr} {H H' : Hp} {o : HO} (e : Off w H H') : Off w H (upd H' w o) := fun a u n h => by rw [upd_ne n]; exact e a u n h
theorem Off.new {w : Addr} {H H' : Hp} {p : Addr} {o : HO} (e : Off w H H') (h : H p = none) : Off w H (upd H' p o) := fun a u n q => by rw [upd_ne (ne_of_none q h)]; exact e a u n q
theorem Off.none {w : Addr} {H H' : Hp} (e : Off w H H') {p : Addr} (hw : p ≠ w) (h : H' p = none) : H p = none := by
  cases q : H p with
  | none => rfl
  | some o => rw [e p o hw q] at h; cases h
theorem WellAt.ext {H H' : Hp} {w : Addr} (h : WellAt H w) (e : Ext H H') : WellAt H' w := by
  obtain ⟨a, s, c, h⟩ := h
  exact ⟨a, s, c, e _ _ h⟩
theorem WellAt.ne {H : Hp} {w p : Addr} (h : WellAt H w) (hp : H p = none) : p ≠ w := fun e => by
  obtain ⟨a, s, c, h⟩ := h
  rw [e, h] at hp
  cases hp
theorem WellAt.neD {H : Hp} {w p : Addr} {kvs : List (Key × V)} (h : WellAt H w) (hp : H p = some (.dK kvs)) : p ≠ w := fun e => by
  obtain ⟨a, s, c, h⟩ := h
  rw [e, h] at hp
  cases hp
section
variable {P : Program} {w : World} {K : PySem.W.Frag} {mg : Str → Option Value} {base : Heap}
/-- _law_well -/
def spWell (K : PySem.W.Frag) : Sp := fun vs H Q _ => ∃ (a : Addr) (t : Nat) (ns : List Int), vs = [.ref a, .int t] ∧ SqL K H a (ns.map V.int) ∧ ∀ w H', Ext H H' → H w = none → WellAt H' w → Q (.ref w) H'
abbrev nmWell : List Str := ["_law_script", "_law_turn", "_law_own", "_law_mixed", "_law_cell", "_law_start"]
theorem scWell : FnScope nmWell ["_law_script", "_law_turn"] (defScope (top 32)) := C8.fnScope_by (by decide +kernel)
theorem cal_well (T : Txt K mg) : C8.Cal P w K mg base 1 "_law_well" (spWell K) [] := by
  refine calF (k := 0) (T.fn 20 rfl rfl) scWell (fun _ _ _ _ _ _ us hl => match us, hl with | [_, _], _ => rfl) (fun vs H Q E h => by obtain ⟨_, _, _, rfl, _⟩ := h; rfl) (fun f cdv A outer s H vs Q E hr h => ?_)
  refine ⟨_, pss_cons (ps_set (i := 2) scWell.nd rfl (Or.inl rfl) (pe_ifExp (pt_cmpR op_lt (pv 1) (pe_callB call_len_seq (by rfl) (T.free 8) (by decide +kernel) (pa_cons (pv 0) pa_nil)) (nomark _)) (pe_callTy call_int1 (by rfl) (T.free 6) (by decide +kernel) (pa_cons (pe_ix ix_list (pv 0) (pv 1) (fun _ _ => rfl)) pa_nil)) pe_int))
    (pss_cons (ps_set (i := 3) scWell.nd rfl (Or.inl rfl) (pe_op op_add pe_int (pe_op op_mul pe_int (pv 1))))
    (pss_cons (ps_for PassesOwn.never rfl (pi_list (pe_slice sl_list (pv 0) po_none (po_some pe_int))) (pg_name (i := 4) scWell.nd rfl (Or.inl rfl))
        (pss_one (ps_set (i := 3) scWell.nd rfl (Or.inl rfl) (pe_op op_mod (pe_callTy call_int1 (by rfl) (T.free 6) (by decide +kernel) (pa_cons (pe_op op_add (pe_op op_add (pe_op op_mul (pv 3) pe_int) (pe_op op_mod (pe_callTy call_int1 (by rfl) (T.free 6) (by decide +kernel) (pa_cons (pv 4) pa_nil)) pe_int)) pe_int) pa_nil)) pe_int))))
    (pss_cons (ps_set (i := 5) scWell.nd rfl (Or.inl rfl) (pe_op op_mod (pe_callTy call_int1 (by rfl) (T.free 6) (by decide +kernel) (pa_cons (pe_op op_add (pe_op op_add (pe_op op_mul (pv 3) pe_int) (pe_op op_mul (pe_op op_mod (pe_callTy call_int1 (by rfl) (T.free 6) (by decide +kernel) (pa_cons (pv 2) pa_nil)) pe_int) pe_int)) pe_int) pa_nil)) pe_int))
    (pss_one (ps_ret (pe_lst (pa_cons (pe_ifExp (PW.pt (pw_or (pt_cmpR op_lt (pv 2) pe_int (nomark _)) (pw_or1 (pt_cmpR op_ge (pv 2) (pe_op op_pow pe_int pe_int) (nomark _))))) (pe_callB call_abs (by rfl) (T.free 0) (by decide +kernel) (pa_cons (pv 2) pa_nil)) pe_int) (pa_cons (pv 5) (pa_cons pe_int pa_nil))))))))), ?_⟩
  obtain ⟨a, t, ns, rfl, ha, Qk⟩ := h
  refine seqP (fun σ H' => H' = H ∧ ∃ own : Int, σ = [some (.ref a), some (.int t), some (.int own), none, none, none]) ?_ (fun hd => ⟨_, rfl, _, rfl, a, _, rfl, .inl ha, _, _, rfl, rfl, _, rfl, ite2 (fun c => ?_) (fun c => hd _ _ ⟨rfl, _, rfl⟩)⟩)
  · rintro σ H' ⟨rfl, own, rfl⟩
    refine ⟨_, rfl, _, _, rfl, rfl, .inl ⟨by decide, by decide⟩, _, _, rfl, rfl, ?_⟩
    refine ⟨_, rfl, 9, rfl, a, _, rfl, ha, fun p hp => ⟨p, rfl, ⟨_, SqL.of upd_same⟩, for_list (xs := cutV (ns.map V.int) none (some 9)) (fun k σ H2 => H2 = upd H' p (.lst (cutV (ns.map V.int) none (some 9))) ∧ ∃ (m : Int) (v4 : Option V), σ = [some (.ref a), some (.int t), some (.int own), some (.int m), v4, none]) ⟨rfl, _, none, rfl⟩ (fun k σ H2 _ pv => by rw [pv.1]; exact SqL.of upd_same) (fun k x σ H2 hx pv => ?_) (fun σ H2 pv => ?_)⟩⟩
    · obtain ⟨rfl, m, v4, rfl⟩ := pv
      obtain ⟨z, rfl⟩ : ∃ z : Int, x = .int z := by
        have h1 : x ∈ cutV (ns.map V.int) none (some 9) := List.mem_of_getElem? hx
        unfold cutV at h1
        obtain ⟨z, _, e⟩ := List.mem_map.mp (List.mem_of_mem_drop (List.mem_of_mem_take h1))
        exact ⟨z, e.symm⟩
      exact ⟨_, rfl, _, _, rfl, rfl, .inr ⟨by decide, by decide⟩, _, rfl, .inl ⟨z, rfl, _, _, rfl, rfl, by show (0 : Int) < 2147483587; decide, _, _, rfl, rfl, _, _, rfl, rfl, .inl ⟨_, rfl, _, _, rfl, rfl, by show (0 : Int) < 2147483563; decide, rfl, _, _, rfl⟩⟩⟩
    · obtain ⟨rfl, m, v4, rfl⟩ := pv
      refine ⟨_, rfl, _, _, rfl, rfl, .inr ⟨by decide, by decide⟩, _, rfl, .inl ⟨own, rfl, _, _, rfl, rfl, by show (0 : Int) < 2147483587; decide, _, _, rfl, rfl, .inr ⟨by decide, by decide⟩, _, _, rfl, rfl, _, _, rfl, rfl, .inl ⟨_, rfl, _, _, rfl, rfl, by show (0 : Int) < 2147483563; decide, ?_⟩⟩⟩
      have fin : ∀ z y : Int, ∀ q, upd H' p (.lst (cutV (ns.map V.int) none (some 9))) q = none → Q (.ref q) (upd (upd H' p (.lst (cutV (ns.map V.int) none (some 9)))) q (.lst [.int z, .int y, .int 0])) := fun z y q hq =>
        Qk q _ ((Ext.upd hp).upd' hq) (by
          cases e : H' q with
          | none => rfl
          | some o => rw [Ext.upd hp _ _ e] at hq; cases hq) ⟨z, y, 0, upd_same⟩
      refine ⟨_, rfl, _, _, rfl, rfl, _, rfl, ite2 (fun c => ?_) (fun c => ?_)⟩
      · exact iteT ⟨_, rfl, own, rfl, _, rfl, by show 3 ≤ sizeLine; decide, fun q hq => fin _ _ q hq⟩
      · refine ⟨_, rfl, _, _, rfl, rfl, ⟨by decide, by decide, by decide⟩, _, _, rfl, rfl, _, rfl, ite2 (fun c2 => ?_) (fun c2 => ?_)⟩
        · exact ⟨_, rfl, own, rfl, _, rfl, by show 3 ≤ sizeLine; decide, fun q hq => fin _ _ q hq⟩
        · exact ⟨_, rfl, by show 3 ≤ sizeLine; decide, fun q hq => fin _ _ q hq⟩
  · have c' : t < ns.length := by
      have := of_decide_eq_true c
      rw [List.length_map] at this
      omega
    exact ⟨_, rfl, _, rfl, a, _, _, _, rfl, rfl, ha, atI_int c', .inl ⟨_, rfl, hd _ _ ⟨rfl, _, rfl⟩⟩⟩
/-- _law_dip -/
def spDip : Sp := fun vs H Q _ => ∃ (wl : Addr) (top : Int), vs = [.ref wl, .int top] ∧ WellAt H wl ∧ 0 < top ∧ top < 536870912 ∧ ∀ d H', Off wl H H' → WellAt H' wl → 0 ≤ d → d < top → Q (.int d) H'
abbrev nmDip : List Str := ["_law_well_here", "_law_top", "_law_digit", "_law_seed"]
theorem scDip : FnScope nmDip ["_law_well_here", "_law_top"] (defScope (top 33)) := C8.fnScope_by (by decide +kernel)
theorem cal_dip (T : Txt K mg) : C8.Cal P w K mg base 1 "_law_dip" spDip [] := by
  refine calF (k := 0) (T.fn 21 rfl rfl) scDip (fun _ _ _ _ _ _ us hl => match us, hl with | [_, _], _ => rfl) (fun vs H Q E h => by obtain ⟨_, _, rfl, _⟩ := h; rfl) (fun f cdv A outer s H vs Q E hr h => ?_)
  refine ⟨_, pss_cons (ps_if (pt_cmpR op_gt (pe_ix ix_list (pv 0) pe_int (fun _ _ => rfl)) pe_int (nomark _))
      (pss_cons (ps_asg (pe_callB call_divmodW (by rfl) (T.free 4) (by decide +kernel) (pa_cons (pe_ix ix_list (pv 0) pe_int (fun _ _ => rfl)) (pa_cons (pv 1) pa_nil))) (pg_tup rfl (pgs_cons (pg_sub (pv 0) pe_int set_list) (pgs_cons (pg_name (i := 2) scDip.nd rfl (Or.inl rfl)) pgs_nil))))
      (pss_one (ps_ret (pv 2)))) pss_nil)
    (pss_cons (ps_asg (pe_op op_add (pe_ix ix_list (pv 0) pe_int (fun _ _ => rfl)) pe_int) (pg_sub (pv 0) pe_int set_list))
    (pss_cons (ps_set (i := 3) scDip.nd rfl (Or.inl rfl) (pe_op op_mod (pe_callTy call_int1 (by rfl) (T.free 6) (by decide +kernel) (pa_cons (pe_op op_add (pe_ix ix_list (pv 0) pe_int (fun _ _ => rfl)) (pe_op op_mul pe_int (pe_ix ix_list (pv 0) pe_int (fun _ _ => rfl)))) pa_nil)) pe_int))
    (pss_cons (ps_asg (pe_op op_mod (pe_callTy call_int1 (by rfl) (T.free 6) (by decide +kernel) (pa_cons (pe_op op_add (pe_op op_mul (pv 3) (pe_op op_add (pe_op op_mod (pe_callTy call_int1 (by rfl) (T.free 6) (by decide +kernel) (pa_cons (pv 3) pa_nil)) pe_int) pe_int)) (pe_op op_mul pe_int (pe_ix ix_list (pv 0) pe_int (fun _ _ => rfl)))) pa_nil)) pe_int) (pg_sub (pv 0) pe_int set_list))
    (pss_one (ps_ret (pe_op op_mod (pe_callTy call_int1 (by rfl) (T.free 6) (by decide +kernel) (pa_cons (pe_op op_fdiv (pe_ix ix_list (pv 0) pe_int (fun _ _ => rfl)) pe_int) pa_nil)) (pv 1))))))), ?_⟩
  obtain ⟨wl, top, rfl, ⟨a, st, c, hw⟩, h1, h2, Qk⟩ := h
  have at0 : ∀ {x y z : Int}, atI [V.int x, V.int y, V.int z] 0 = some (.int x) := fun {x y z} => rfl
  have at1 : ∀ {x y z : Int}, atI [V.int x, V.int y, V.int z] 1 = some (.int y) := fun {x y z} => rfl
  have at2 : ∀ {x y z : Int}, atI [V.int x, V.int y, V.int z] 2 = some (.int z) := fun {x y z} => rfl
  refine ⟨_, rfl, wl, _, 0, _, rfl, rfl, SqL.of hw, at0, _, _, rfl, rfl, _, rfl, ite2 (fun q => ?_) (fun q => ?_)⟩
  · refine ⟨_, rfl, wl, _, 0, _, rfl, rfl, SqL.of hw, at0, _, rfl, a, top, rfl, ⟨h1, PyProof.noPylong_small (by omega)⟩, fun p hp => ⟨p, _, rfl, SqT.of upd_same, rfl, _, _, rfl, _, rfl, wl, _, 0, 0, rfl, rfl, Ext.upd hp _ _ hw, rfl, _, _, rfl, rfl, _, rfl, ?_⟩⟩
    refine Qk (a % top) _ ((Off.of (Ext.upd hp)).put) ⟨a / top, st, c, upd_same⟩ (Int.emod_nonneg _ (by omega)) (Int.emod_lt_of_pos _ h1)
  · refine ⟨_, rfl, wl, _, 2, _, rfl, rfl, SqL.of hw, at2, _, _, rfl, rfl, _, rfl, wl, _, 2, 2, rfl, rfl, hw, rfl, ?_⟩
    have hw2 : ∀ {H' : Hp} {o : HO}, upd H' wl o wl = some o := fun {H' o} => upd_same
    refine ⟨_, rfl, wl, _, 1, _, rfl, rfl, SqL.of hw2, at1, _, rfl, wl, _, 2, _, rfl, rfl, SqL.of hw2, at2, _, _, rfl, rfl, .inl ⟨by decide, by decide⟩, _, _, rfl, rfl, .inl ⟨_, rfl, _, _, rfl, rfl, by show (0 : Int) < 2147483563; decide, ?_⟩⟩
    refine ⟨_, rfl, _, rfl, .inl ⟨_, rfl, _, _, rfl, rfl, by show (0 : Int) < 7919; decide, _, _, rfl, rfl, _, _, rfl, rfl, .inl ⟨?_, ?_⟩, _, rfl, wl, _, 2, _, rfl, rfl, SqL.of hw2, at2, _, _, rfl, rfl, .inl ⟨by decide, by decide⟩, _, _, rfl, rfl, .inl ⟨_, rfl, _, _, rfl, rfl, by show (0 : Int) < 2147483563; decide, _, rfl, wl, _, 1, 1, rfl, rfl, hw2, rfl,
      _, rfl, wl, _, 1, _, rfl, rfl, SqL.of hw2, at1, _, _, rfl, rfl, ⟨by decide, by decide⟩, .inl ⟨_, rfl, _, rfl, _, _, rfl, rfl, h1, ?_⟩⟩⟩⟩
    · omega
    · omega
    · exact Qk _ _ (Off.put (Off.put Off.refl)) ⟨_, _, _, upd_same⟩ (Int.emod_nonneg _ (by omega)) (Int.emod_lt_of_pos _ h1)
/-- _law_pick -/
def spPick (K : PySem.W.Frag) : Sp := fun vs H Q _ => ∃ (wl l : Addr) (xs : List V), vs = [.ref wl, .ref l] ∧ WellAt H wl ∧ H l = some (.lst xs) ∧ l ≠ wl ∧ 0 < xs.length ∧ xs.length < 1000 ∧ ∀ (i : Nat) x H', Off wl H H' → WellAt H' wl → xs[i]? = some x → Q x H'
theorem scPick : FnScope ["_law_well_here", "_law_some"] ["_law_well_here", "_law_some"] (defScope (top 34)) := C8.fnScope_by (by decide +kernel)
theorem cal_pick (T : Txt K mg) : C8.Cal P w K mg base 2 "_law_pick" (spPick K) [] := by
  refine calF (k := 1) (T.fn 22 rfl rfl) scPick (fun _ _ _ _ _ _ us hl => match us, hl with | [_, _], _ => rfl) (fun vs H Q E h => by obtain ⟨_, _, _, rfl, _⟩ := h; rfl) (fun f cdv A outer s H vs Q E hr h => ?_)
  refine ⟨_, pss_one (ps_ret (pe_ix ix_list (pv 1) (C8.pe_c (cal_dip T) hr (by decide) (by rfl) (pa_cons (pv 0) (pa_cons (pe_callB call_len_seq (by rfl) (T.free 8) (by decide +kernel) (pa_cons (pv 1) pa_nil)) pa_nil))) (fun _ _ => rfl))), ?_⟩
  obtain ⟨wl, l, xs, rfl, hw, hl, hne, h1, h2, Qk⟩ := h
  refine ⟨_, rfl, _, rfl, _, rfl, l, xs, rfl, .inl (SqL.of hl), wl, (xs.length : Int), rfl, hw, by omega, by omega, fun d H' o1 w1 d1 d2 => ?_⟩
  obtain ⟨i, rfl⟩ : ∃ i : Nat, d = i := ⟨d.toNat, by omega⟩
  have hi : i < xs.length := by omega
  exact ⟨l, xs, i, xs[i], rfl, rfl, SqL.of (o1 _ _ hne hl), atI_nat (List.getElem?_eq_getElem hi), Qk i xs[i] H' o1 w1 (List.getElem?_eq_getElem hi)⟩
end
end Lau
end
section
/-! ## part L2 -/
set_option maxHeartbeats 4000000
namespace Lau
open PySem PySem.Spec PyProof.Rows L2
/-- a dict of the law: powers near each other, coefficients that are not 0 -/
structure Poly (e : Ent) : Prop where
  nd : ND e
  len : e.length ≤ 4
  ks : ∀ p ∈ e, -10 ≤ p.1 ∧ p.1 ≤ 10
  vs : ∀ p ∈ e, -1000000000007 ≤ p.2 ∧ p.2 ≤ 1000000000007
theorem one_of {x : V} {i : Nat} (h : ([.int 1, .int (-1), .int 2, .int (-3), .int 1, .int 4, .int (-2), .int (10 ^ (12 : Int).toNat + 7)] : List V)[i]? = some x) : ∃ v : Int, x = .int v ∧ v ≠ 0 ∧ -1000000000007 ≤ v ∧ v ≤ 1000000000007 := by
  have hm := List.mem_of_getElem? h
  simp only [List.mem_cons, List.not_mem_nil, or_false] at hm
  rcases hm with rfl | rfl | rfl | rfl | rfl | rfl | rfl | rfl
  · exact ⟨_, rfl, by decide, by decide, by decide⟩
  · exact ⟨_, rfl, by decide, by decide, by decide⟩
  · exact ⟨_, rfl, by decide, by decide, by decide⟩
  · exact ⟨_, rfl, by decide, by decide, by decide⟩
  · exact ⟨_, rfl, by decide, by decide, by decide⟩
  · exact ⟨_, rfl, by decide, by decide, by decide⟩
  · exact ⟨_, rfl, by decide, by decide, by decide⟩
  · exact ⟨_, rfl, by decide +kernel, by decide +kernel, by decide +kernel⟩
section
variable {P : Program} {w : World} {K : PySem.W.Frag} {mg : Str → Option Value} {base : Heap}
/-- _law_poly -/
def spPoly : Sp := fun vs H Q _ => ∃ wl : Addr, vs = [.ref wl, .int 4] ∧ WellAt H wl ∧ ∀ e d H', Off wl H H' → WellAt H' wl → H d = none → H' d = some (.dK (eKV e)) → Poly e → Q (.ref d) H'
abbrev nmPoly : List Str := ["_law_well_here", "_law_most", "_law_low", "_law_found", "_law_turn", "_law_number"]
theorem scPoly : FnScope nmPoly ["_law_well_here", "_law_most"] (defScope (top 35)) := C8.fnScope_by (by decide +kernel)
theorem cal_poly (T : Txt K mg) : C8.Cal P w K mg base 3 "_law_poly" spPoly [] := by
  refine calF (k := 2) (T.fn 23 rfl rfl) scPoly (fun _ _ _ _ _ _ us hl => match us, hl with | [_, _], _ => rfl) (fun vs H Q E h => by obtain ⟨_, rfl, _⟩ := h; rfl) (fun f cdv A outer s H vs Q E hr h => ?_)
  refine ⟨_, pss_cons (ps_par (i := 2) (j := 3) rfl scPoly.nd rfl rfl (by decide) rfl rfl (pa_cons (pe_op op_sub (C8.pe_c (cal_dip T) hr (by decide) (by rfl) (pa_cons (pv 0) (pa_cons pe_int pa_nil))) pe_int) (pa_cons pe_dnewK pa_nil)) (by rfl))
    (pss_cons (ps_for PassesOwn.never rfl (pi_range1 (by rfl) (T.free 12) (pa_cons (C8.pe_c (cal_dip T) hr (by decide) (by rfl) (pa_cons (pv 0) (pa_cons (pe_op op_add (pv 1) pe_int) pa_nil))) pa_nil)) (pg_name (i := 4) scPoly.nd rfl (Or.inl rfl))
        (pss_cons (ps_set (i := 5) scPoly.nd rfl (Or.inl rfl) (C8.pe_c (cal_pick T) hr (by decide) (by rfl) (pa_cons (pv 0) (pa_cons (pe_lst (pa_cons pe_int (pa_cons (pe_un un_neg pe_int) (pa_cons pe_int (pa_cons (pe_un un_neg pe_int) (pa_cons pe_int (pa_cons pe_int (pa_cons (pe_un un_neg pe_int) (pa_cons (pe_op op_add (pe_op op_pow pe_int pe_int) pe_int) pa_nil))))))))) pa_nil))))
        (pss_one (ps_asg (pv 5) (pg_sub (pv 3) (pe_op op_add (pv 2) (C8.pe_c (cal_dip T) hr (by decide) (by rfl) (pa_cons (pv 0) (pa_cons pe_int pa_nil)))) (set_dict (hu_of hr)))))))
    (pss_one (ps_ret (pv 3)))), ?_⟩
  obtain ⟨wl, rfl, hw, Qk⟩ := h
  refine ⟨_, rfl, wl, 7, rfl, hw, by decide, by decide, fun d0 H1 o1 w1 g1 g2 => ⟨_, _, rfl, rfl, fun d hd => ⟨_, _, rfl, ?_⟩⟩⟩
  have hdw : d ≠ wl := w1.ne hd
  have hd0 : H d = none := o1.none hdw hd
  have o2 : Off wl H (upd H1 d (.dK [])) := o1.new hd0
  have w2 : WellAt (upd H1 d (.dK [])) wl := w1.ext (Ext.upd hd)
  refine ⟨_, rfl, _, rfl, _, _, rfl, rfl, wl, 5, rfl, w2, by decide, by decide, fun n0 H2 o3 w3 n1 n2 => ?_⟩
  obtain ⟨n, rfl⟩ : ∃ n : Nat, n0 = n := ⟨n0.toNat, by omega⟩
  refine ⟨n, rfl, by omega, by omega, for_range (n := n) (fun t σ H' => Off wl H H' ∧ WellAt H' wl ∧ ∃ (e : Ent) (v4 v5 : Option V), H' d = some (.dK (eKV e)) ∧ KN e ∧ e.length ≤ t ∧ (∀ p ∈ e, p.2 ≠ 0 ∧ -10 ≤ p.1 ∧ p.1 ≤ 10 ∧ -1000000000007 ≤ p.2 ∧ p.2 ≤ 1000000000007) ∧
    σ = [some (.ref wl), some (.int 4), some (.int (d0 - 3)), some (.ref d), v4, v5]) ⟨o2.trans o3, w3, [], none, none, o3 _ _ hdw upd_same, List.nodup_nil, Nat.le_refl _, (fun p h => nomatch h), rfl⟩ (fun t σ H' ht pv => ?_) (fun σ H' pv => ?_)⟩
  · obtain ⟨o4, w4, e, v4, v5, he, kn, el, ev', rfl⟩ := pv
    refine ⟨_, rfl, _, rfl, _, rfl, _, rfl, _, _, rfl, rfl, ⟨by decide, by decide, by decide⟩, _, _, rfl, rfl, by show 8 ≤ sizeLine; decide, fun p hp => ?_⟩
    have hpw : p ≠ wl := w4.ne hp
    refine ⟨wl, p, _, rfl, w4.ext (Ext.upd hp), upd_same, hpw, by show 0 < 8; decide, by show 8 < 1000; decide, fun i x H3 o5 w5 hx => ?_⟩
    obtain ⟨v, rfl, v0, v1, v2⟩ := one_of hx
    have he3 : H3 d = some (.dK (eKV e)) := o5 _ _ hdw (Ext.upd hp _ _ he)
    refine ⟨_, rfl, _, rfl, _, rfl, _, rfl, wl, 4, rfl, w5, by decide, by decide, fun k4 H4 o6 w6 k1 k2 => ⟨_, _, rfl, rfl, d, _, rfl, DPut.k (k := Sum.inl (d0 - 3 + k4)) (o6 _ _ hdw he3) (by rw [eKV, List.length_map, sizeLine_eq]; omega), ?_⟩⟩
    rw [put_eKV]
    have o7 : Off wl H H4 := ((o4.trans (Off.of (Ext.upd hp))).trans o5).trans o6
    refine ⟨o7.new hd0, ?_, putE e (d0 - 3 + k4) v, _, _, upd_same, kn_put kn _ _, ?_, fun q hq => ?_, rfl⟩
    · obtain ⟨a, s', c, h⟩ := w6
      exact ⟨a, s', c, by rw [upd_ne (Ne.symm hdw)]; exact h⟩
    · have := len_put e (d0 - 3 + k4) v
      omega
    · rcases mem_put hq with rfl | hq
      · exact ⟨v0, by show -10 ≤ d0 - 3 + k4; omega, by show d0 - 3 + k4 ≤ 10; omega, v1, v2⟩
      · exact ev' q hq
  · obtain ⟨o4, w4, e, v4, v5, he, kn, el, ev', rfl⟩ := pv
    exact ⟨_, rfl, Qk e d H' o4 w4 hd0 he ⟨⟨kn, fun p hp => (ev' p hp).1⟩, by omega, fun p hp => ⟨(ev' p hp).2.1, (ev' p hp).2.2.1⟩, fun p hp => (ev' p hp).2.2.2⟩⟩
end
end Lau
end
section
/-! ## part L3 -/
set_option maxHeartbeats 4000000
namespace Lau
open PySem PySem.Spec PyProof.Rows L2
theorem SqT.offD {K : PySem.W.Frag} {H : Hp} {x a : Addr} {kvs : List (Key × V)} {o : HO} {xs : List V} (hx : H x = some (.dK kvs)) (h : SqT K H a xs) : SqT K (upd H x o) a xs := by
  rcases h with (h | ⟨ob, h⟩) | h
  · exact .inl (.inl (by rw [upd_ne (ne_of h hx (by intro z; cases z))]; exact h))
  · exact .inl (.inr ⟨ob, by rw [upd_ne (ne_of h hx (by intro z; cases z))]; exact h⟩)
  · exact .inr h
theorem SqL.offD {K : PySem.W.Frag} {H : Hp} {x a : Addr} {kvs : List (Key × V)} {o : HO} {xs : List V} (hx : H x = some (.dK kvs)) (h : SqL K H a xs) : SqL K (upd H x o) a xs := by
  rcases h with (h | ⟨ob, h⟩) | h
  · exact .inl (.inl (by rw [upd_ne (ne_of h hx (by intro z; cases z))]; exact h))
  · exact .inl (.inr ⟨ob, by rw [upd_ne (ne_of h hx (by intro z; cases z))]; exact h⟩)
  · exact .inr h
theorem dgetE {H : Hp} {a : Addr} {e : Ent} (h : H a = some (.dK (eKV e))) (k : Int) : DGet H a (.int k) ((lkp e k).map V.int) := by
  have := DGet.k (k := Sum.inl k) h
  rw [val_eKV] at this
  exact this
theorem dgetS {H : Hp} {a : Addr} {e : Ent} (h : H a = some (.dK (eKV e))) (n : KN e) {p : Int × Int} (hp : p ∈ e) : DGet H a (.int p.1) (some (.int p.2)) := by
  have := dgetE h p.1
  rw [lkp_mem n hp] at this
  exact this
theorem getD_int {o : Option Int} : (o.map V.int).getD (.int 0) = .int (o.getD 0) := by cases o <;> rfl
theorem isD {H : Hp} {a : Addr} {e : Ent} (h : H a = some (.dK (eKV e))) : IsD H a := .inl ⟨_, .inl h⟩
theorem keys_eKV (e : Ent) : ((eKV e).map fun kv => kV kv.1) = (keys e).map V.int := by
  unfold eKV keys
  rw [List.map_map, List.map_map]
  rfl
/-- what list(d.items()) lays -/
def ItsAt (K : PySem.W.Frag) (H : Hp) (p : Addr) (ts : List Addr) (f : Ent) : Prop := SqL K H p (ts.map V.ref) ∧ ∀ (n : Nat) a q, ts[n]? = some a → f[n]? = some q → SqT K H a [.int q.1, .int q.2]
theorem ItsAt.ext {K : PySem.W.Frag} {H H' : Hp} {p : Addr} {ts : List Addr} {f : Ent} (h : ItsAt K H p ts f) (e : Ext H H') : ItsAt K H' p ts f := ⟨h.1.ext e, fun n a q h1 h2 => (h.2 n a q h1 h2).ext e⟩
theorem ItsAt.offD {K : PySem.W.Frag} {H : Hp} {p x : Addr} {ts : List Addr} {f : Ent} {kvs : List (Key × V)} {o : HO} (hx : H x = some (.dK kvs)) (h : ItsAt K H p ts f) : ItsAt K (upd H x o) p ts f := ⟨SqL.offD hx h.1, fun n a q h1 h2 => SqT.offD hx (h.2 n a q h1 h2)⟩
/-- list(d.items()) of a dict of ints -/
theorem items_of {K : PySem.W.Frag} {H : Hp} {d : Addr} {f : Ent} {Q : VK} (h : H d = some (.dK (eKV f))) (q : ∀ H' p ts, Ext H H' → H p = none → ts.length = f.length → ItsAt K H' p ts f → Q (.ref p) H') : LiI.rItemsL (.ref d) H Q := by
  refine ⟨d, eKV f, rfl, h, fun H' p ts e hp _ _ hl hpr => ?_⟩
  have hlen : ts.length = f.length := by rw [Paired.length hpr, eKV, List.length_map]
  refine q H' p ts e hp hlen ⟨SqL.of hl, fun n a x h1 h2 => ?_⟩
  obtain ⟨y, h3, h4⟩ := LiI.paired_get hpr h1
  unfold eKV at h3
  rw [List.getElem?_map, h2] at h3
  have e := (Option.some.inj h3).symm
  subst e
  exact SqT.of h4
theorem pairs_for {K : PySem.W.Frag} {p : Addr} {ts : List Addr} {f : Ent} {i j : Nat} {tb : TS} {D : Ends} {σ : L2.St} {H : Hp} (hl : ts.length = f.length) (Pv : Nat → L2.St → Hp → Prop) (h0 : Pv 0 σ H) (hG : ∀ t σ H, t ≤ f.length → Pv t σ H → ItsAt K H p ts f)
    (hs : ∀ (t : Nat) (q : Int × Int) σ H, f[t]? = some q → Pv t σ H → tb { D with nx := Pv (t + 1), ct := Pv (t + 1), bk := D.nx } ((σ.set i (some (.int q.1))).set j (some (.int q.2))) H) (hd : ∀ σ H, Pv f.length σ H → D.nx σ H) :
    ∃ W : Nat → Nat → L2.St → Hp → Prop, (∃ m, W 0 m σ H) ∧ ∀ k m σ H, W k m σ H →
      ((Itl K p).stop k H ∧ D.nx σ H) ∨ ((Itl K p).go k H ∧ ∃ N : L2.St → Hp → Prop, (∀ σ' H', N σ' H' → ∃ m', m' < m ∧ W (k + 1) m' σ' H') ∧ ∀ x H', (Itl K p).yld k H x H' → gTup K 2 (gCons (gName i) (gCons (gName j) gNil)) x σ H' fun σ2 H2 => tb { D with nx := N, ct := N, bk := D.nx } σ2 H2) := by
  have hl2 : (ts.map V.ref).length = f.length := by rw [List.length_map, hl]
  refine for_list (xs := ts.map V.ref) Pv h0 (fun k σ H hk p => (hG k σ H (by omega) p).1) (fun k x σ H hx pv => ?_) (fun σ H pv => hd σ H (by rw [← hl2]; exact pv))
  rw [List.getElem?_map] at hx
  obtain ⟨a, ha, rfl⟩ := Option.map_eq_some_iff.mp hx
  have hk : k < f.length := by have := lt_of_get ha; omega
  have hq := List.getElem?_eq_getElem hk
  exact ⟨a, _, rfl, (hG k σ H (by omega) pv).2 k a _ ha hq, rfl, _, _, rfl, _, _, rfl, rfl, hs k _ σ H hq pv⟩
theorem ev_take {f : Ent} {t : Nat} {q : Int × Int} (h : f[t]? = some q) (k : Int) : ev (f.take (t + 1)) k = ev (f.take t) k + if q.1 = k then q.2 else 0 := by
  rw [List.take_add_one, h, Option.toList_some, ev_append]
  simp [ev]
section
variable {P : Program} {w : World} {K : PySem.W.Frag} {mg : Str → Option Value} {base : Heap}
/-- _law_added -/
def spAdd : Sp := fun vs H Q _ => ∃ (p q : Addr) (m bx : Int) (e f : Ent), vs = [.ref p, .ref q, .int m, .int bx] ∧ H p = some (.dK (eKV e)) ∧ H q = some (.dK (eKV f)) ∧ KN e ∧ -(2 ^ 64) < m ∧ m < 2 ^ 64 ∧ e.length + f.length ≤ 1000000 ∧
  ∀ g d H', Ext H H' → H d = none → H' d = some (.dK (eKV g)) → ND g → (∀ k, ev g k = ev e k + m * ev f (k - bx)) → g.length ≤ e.length + f.length → Q (.ref d) H'
abbrev nmAdd : List Str := ["_law_one", "_law_two", "_law_many", "_law_by", "_law_found", "_law_spot", "_law_number"]
theorem scAdd : FnScope nmAdd ["_law_one", "_law_two", "_law_many", "_law_by"] (defScope (top 36)) := C8.fnScope_by (by decide +kernel)
theorem cal_add (T : Txt K mg) : C8.Cal P w K mg base 1 "_law_added" spAdd [] := by
  refine calF (k := 0) (T.fn 24 rfl rfl) scAdd (fun _ _ _ _ _ _ us hl => match us, hl with | [_, _, _, _], _ => rfl) (fun vs H Q E h => by obtain ⟨_, _, _, _, _, _, rfl, _⟩ := h; rfl) (fun f cdv A outer s H vs Q E hr h => ?_)
  refine ⟨_, pss_cons (ps_set (i := 4) scAdd.nd rfl (Or.inl rfl) (pe_callTy call_dictD (by rfl) (T.free 3) (by decide +kernel) (pa_cons (pv 0) pa_nil)))
    (pss_cons (ps_for PassesOwn.never rfl (pi_list (LiI.pe_listItems rfl (pv 1) (by rfl) (T.free 9) (by decide +kernel))) (pg_tup rfl (pgs_cons (pg_name (i := 5) scAdd.nd rfl (Or.inl rfl)) (pgs_cons (pg_name (i := 6) scAdd.nd rfl (Or.inl rfl)) pgs_nil)))
        (pss_one (ps_asg (pe_op op_add (pe_dget2 (hu_of hr) (pv 4) (pe_op op_add (pv 5) (pv 3)) pe_int ⟨rfl, rfl, rfl, rfl⟩) (pe_op op_mul (pv 2) (pv 6))) (pg_sub (pv 4) (pe_op op_add (pv 5) (pv 3)) (set_dict (hu_of hr))))))
    (pss_cons (ps_for PassesOwn.never rfl (pi_list (pe_callTy (call_list_dK rfl) (by rfl) (T.free 9) (by decide +kernel) (pa_cons (pv 4) pa_nil))) (pg_name (i := 5) scAdd.nd rfl (Or.inl rfl))
        (pss_one (ps_if (pt_cmpR op_eq (pe_dget (hu_of hr) (pv 4) (pv 5) (fun _ _ => rfl)) pe_int (nomark _)) (pss_one (ps_expr (pe_dpop1 (pv 4) (pv 5) ⟨rfl, rfl, rfl, rfl⟩))) pss_nil)))
    (pss_one (ps_ret (pv 4))))), ?_⟩
  obtain ⟨p, q, m, bx, e, f, rfl, hp, hq, kn, m1, m2, hlen, Qk⟩ := h
  refine ⟨_, rfl, p, _, rfl, .inl hp, fun d hd => ⟨_, rfl, items_of (K := K) (Ext.upd hd _ _ hq) fun H1 l ts e1 hl hts hits => ⟨l, rfl, ⟨_, hits.1⟩, ?_⟩⟩⟩
  have e0 : Ext H H1 := (Ext.upd hd).trans e1
  refine pairs_for hts (fun t σ H' => Ext H H' ∧ ItsAt K H' l ts f ∧ ∃ (g : Ent) (v5 v6 : Option V), H' d = some (.dK (eKV g)) ∧ KN g ∧ (∀ k, ev g k = ev e k + m * ev (f.take t) (k - bx)) ∧ g.length ≤ e.length + t ∧
    σ = [some (.ref p), some (.ref q), some (.int m), some (.int bx), some (.ref d), v5, v6]) ⟨e0, hits, e, none, none, e1 _ _ upd_same, kn, fun k => ?_, Nat.le_refl _, rfl⟩ (fun t σ H' _ pv => pv.2.1) (fun t x σ H' hx pv => ?_) (fun σ H' pv => ?_)
  · simp [ev]
  · obtain ⟨e2, its, g, v5, v6, hg, kg, hev, hgl, rfl⟩ := pv
    have ht := lt_of_get hx
    refine ⟨_, rfl, d, rfl, isD hg, _, rfl, _, rfl, _, _, rfl, rfl, _, dgetE hg _, _, rfl, _, rfl, _, _, rfl, rfl, .inl ⟨m1, m2⟩, _, _, getD_int, rfl, _, rfl, _, rfl, _, rfl, _, _, rfl, rfl, d, _, rfl, DPut.k (k := Sum.inl (x.1 + bx)) hg (by rw [eKV, List.length_map, sizeLine_eq]; omega), ?_⟩
    rw [put_eKV]
    refine ⟨extPut e2 hd, ItsAt.offD hg its, _, _, _, upd_same, kn_put kg _ _, fun k => ?_, ?_, rfl⟩
    · rw [ev_put kg, lkp_get kg, ev_take hx]
      by_cases z : k = x.1 + bx
      · rw [if_pos z, if_pos (by omega), hev, z, Int.mul_add]; omega
      · rw [if_neg z, if_neg (by omega), hev, Int.mul_add]; omega
    · have := len_put g (x.1 + bx) ((lkp g (x.1 + bx)).getD 0 + m * x.2)
      omega
  · obtain ⟨e2, its, g, v5, v6, hg, kg, hev, hgl, rfl⟩ := pv
    rw [List.take_length] at hev
    refine ⟨_, rfl, d, _, rfl, hg, fun l2 hl2 => ⟨l2, rfl, ⟨_, SqL.of upd_same⟩, ?_⟩⟩
    rw [keys_eKV]
    have hkl : ((keys g).map V.int).length = g.length := by rw [List.length_map, keys, List.length_map]
    refine for_list (xs := (keys g).map V.int) (fun t σ H3 => Ext H H3 ∧ SqL K H3 l2 ((keys g).map V.int) ∧ H3 d = some (.dK (eKV (nzE (g.take t) ++ g.drop t))) ∧ ∃ v5, σ = [some (.ref p), some (.ref q), some (.int m), some (.int bx), some (.ref d), v5, v6])
      ⟨e2.upd' hl2, SqL.of upd_same, by rw [upd_ne (ne_of_none hg hl2)]; exact hg, _, rfl⟩ (fun t σ H3 _ pv => pv.2.1) (fun t x σ H3 hx pv => ?_) (fun σ H3 pv => ?_)
    · obtain ⟨e3, hl3, hg3, v5', rfl⟩ := pv
      have htl : t < g.length := by have := lt_of_get hx; omega
      have hpt := List.getElem?_eq_getElem htl
      generalize g[t] = y at hpt
      have hxy : x = .int y.1 := by
        unfold keys at hx
        rw [List.map_map, List.getElem?_map, hpt] at hx
        exact (Option.some.inj hx).symm
      subst hxy
      obtain ⟨kc, hyc⟩ := nz_here kg hpt
      have stp := nz_step kg hpt
      refine ⟨_, rfl, _, rfl, d, _, rfl, dgetS hg3 kc hyc, rfl, _, rfl, ite2 (fun c => ?_) (fun c => ?_)⟩
      · have c' : y.2 = 0 := V.int.inj (of_decide_eq_true c)
        refine ⟨_, rfl, d, rfl, isD hg3, _, rfl, _, Sum.inl y.1, .int y.2, hg3, rfl, ?_, ?_⟩
        · rw [val_eKV, lkp_mem kc hyc]
          rfl
        · refine ⟨extPut e3 hd, SqL.offD hg3 hl3, ?_, _, rfl⟩
          rw [upd_same, stp, if_pos c', drop_eKV]
      · have c' : y.2 ≠ 0 := fun z => c (decide_eq_true (by rw [z]))
        refine ⟨e3, hl3, ?_, _, rfl⟩
        rw [stp, if_neg c']
        exact hg3
    · obtain ⟨e3, hl3, hg3, v5', rfl⟩ := pv
      rw [hkl, List.take_length, List.drop_length, List.append_nil] at hg3
      refine ⟨_, rfl, Qk (nzE g) d H3 e3 hd hg3 (nz_nd kg) (fun k => by rw [ev_nz, hev]) (Nat.le_trans (len_nz g) hgl)⟩
end
end Lau
end
section
/-! ## part L4 -/
set_option maxHeartbeats 4000000
namespace Lau
open PySem PySem.Spec PyProof.Rows L2
theorem key_new {e : Ent} (n : KN e) {t : Nat} {x : Int × Int} (h : e[t]? = some x) : x.1 ∉ keys (e.take t) := fun hm => by
  have hl := lt_of_get h
  rw [List.getElem?_eq_getElem hl] at h
  have hx := Option.some.inj h
  have sp : e = e.take t ++ x :: e.drop (t + 1) := by rw [← hx, ← List.drop_eq_getElem_cons hl, List.take_append_drop]
  have nn : (keys (e.take t ++ x :: e.drop (t + 1))).Nodup := by rw [← sp]; exact n
  unfold keys at nn hm
  rw [List.map_append, List.map_cons, List.nodup_append] at nn
  exact nn.2.2 x.1 hm x.1 List.mem_cons_self rfl
theorem cv_takeE {f : Ent} {t : Nat} {q : Int × Int} (h : f[t]? = some q) (g : Int → Int) (k : Int) : cv (f.take (t + 1)) g k = cv (f.take t) g k + q.2 * g (k - q.1) := by
  rw [List.take_add_one, h, Option.toList_some, cv_append]
  simp [cv]
section
variable {P : Program} {w : World} {K : PySem.W.Frag} {mg : Str → Option Value} {base : Heap}
/-- _law_multiplied -/
def spMul : Sp := fun vs H Q _ => ∃ (p q : Addr) (e f : Ent), vs = [.ref p, .ref q] ∧ H p = some (.dK (eKV e)) ∧ H q = some (.dK (eKV f)) ∧ KN e ∧ (∀ x ∈ f, -(2 ^ 64) < x.2 ∧ x.2 < 2 ^ 64) ∧ e.length ≤ 2000 ∧ f.length ≤ 100 ∧
  ∀ g d H', Ext H H' → H' d = some (.dK (eKV g)) → ND g → (∀ k, ev g k = cv f (ev e) k) → g.length ≤ e.length * f.length → Q (.ref d) H'
abbrev nmMul : List Str := ["_law_one", "_law_two", "_law_found", "_law_spot", "_law_number"]
theorem scMul : FnScope nmMul ["_law_one", "_law_two"] (defScope (top 37)) := C8.fnScope_by (by decide +kernel)
theorem cal_mul (T : Txt K mg) : C8.Cal P w K mg base 2 "_law_multiplied" spMul [] := by
  refine calF (k := 1) (T.fn 25 rfl rfl) scMul (fun _ _ _ _ _ _ us hl => match us, hl with | [_, _], _ => rfl) (fun vs H Q E h => by obtain ⟨_, _, _, _, rfl, _⟩ := h; rfl) (fun f cdv A outer s H vs Q E hr h => ?_)
  refine ⟨_, pss_cons (ps_set (i := 2) scMul.nd rfl (Or.inl rfl) pe_dnewK)
    (pss_cons (ps_for PassesOwn.never rfl (pi_list (LiI.pe_listItems rfl (pv 1) (by rfl) (T.free 9) (by decide +kernel))) (pg_tup rfl (pgs_cons (pg_name (i := 3) scMul.nd rfl (Or.inl rfl)) (pgs_cons (pg_name (i := 4) scMul.nd rfl (Or.inl rfl)) pgs_nil)))
        (pss_one (ps_set (i := 2) scMul.nd rfl (Or.inl rfl) (C8.pe_c (cal_add T) hr (by decide) (by rfl) (pa_cons (pv 2) (pa_cons (pv 0) (pa_cons (pv 4) (pa_cons (pv 3) pa_nil))))))))
    (pss_one (ps_ret (pv 2)))), ?_⟩
  obtain ⟨p, q, e, f, rfl, hp, hq, kn, hf, l1, l2, Qk⟩ := h
  refine fun d0 hd0 => ⟨_, rfl, items_of (K := K) (Ext.upd hd0 _ _ hq) fun H1 l ts e1 hl hts hits => ⟨l, rfl, ⟨_, hits.1⟩, ?_⟩⟩
  have e0 : Ext H H1 := (Ext.upd hd0).trans e1
  refine pairs_for hts (fun t σ H' => Ext H H' ∧ ItsAt K H' l ts f ∧ ∃ (d : Addr) (g : Ent) (v3 v4 : Option V), H' d = some (.dK (eKV g)) ∧ ND g ∧ (∀ k, ev g k = cv (f.take t) (ev e) k) ∧ g.length ≤ e.length * t ∧
    σ = [some (.ref p), some (.ref q), some (.ref d), v3, v4]) ⟨e0, hits, d0, [], none, none, e1 _ _ upd_same, ⟨List.nodup_nil, fun _ h => nomatch h⟩, fun k => rfl, Nat.zero_le _, rfl⟩ (fun t σ H' _ pv => pv.2.1) (fun t x σ H' hx pv => ?_) (fun σ H' pv => ?_)
  · obtain ⟨e2, its, d, g, v3, v4, hg, ng, hev, hgl, rfl⟩ := pv
    have ht := lt_of_get hx
    have hb := hf x (List.mem_of_getElem? hx)
    have hgb : g.length ≤ 200000 := Nat.le_trans hgl (Nat.le_trans (Nat.mul_le_mul l1 (Nat.le_of_lt (Nat.lt_of_lt_of_le ht l2))) (by decide))
    refine ⟨_, rfl, _, rfl, _, rfl, _, rfl, d, p, x.2, x.1, g, e, rfl, hg, e2 _ _ hp, ng.1, hb.1, hb.2, by omega, fun g2 d2 H2 e3 _ hg2 n2 hv2 hl2 => ?_⟩
    refine ⟨e2.trans e3, its.ext e3, d2, g2, _, _, hg2, n2, fun k => ?_, ?_, rfl⟩
    · rw [hv2, hev, cv_takeE hx]
    · rw [Nat.mul_succ]
      omega
  · obtain ⟨e2, its, d, g, v3, v4, hg, ng, hev, hgl, rfl⟩ := pv
    rw [List.take_length] at hev
    exact ⟨_, rfl, Qk g d H' e2 hg ng hev hgl⟩
/-- _law_opposite -/
def spOpp : Sp := fun vs H Q _ => ∃ (p : Addr) (e : Ent), vs = [.ref p] ∧ H p = some (.dK (eKV e)) ∧ ND e ∧ e.length ≤ 100000 ∧
  ∀ g d H', Ext H H' → H' d = some (.dK (eKV g)) → ND g → (∀ k, ev g k = ev e (-k)) → g.length ≤ e.length → Q (.ref d) H'
abbrev nmOpp : List Str := ["_law_one", "_law_found", "_law_spot", "_law_number"]
theorem scOpp : FnScope nmOpp ["_law_one"] (defScope (top 38)) := C8.fnScope_by (by decide +kernel)
theorem cal_opp (T : Txt K mg) : C8.Cal P w K mg base 1 "_law_opposite" spOpp [] := by
  refine calF (k := 0) (T.fn 26 rfl rfl) scOpp (fun _ _ _ _ _ _ us hl => match us, hl with | [_], _ => rfl) (fun vs H Q E h => by obtain ⟨_, _, rfl, _⟩ := h; rfl) (fun f cdv A outer s H vs Q E hr h => ?_)
  refine ⟨_, pss_cons (ps_set (i := 1) scOpp.nd rfl (Or.inl rfl) pe_dnewK)
    (pss_cons (ps_for PassesOwn.never rfl (pi_list (LiI.pe_listItems rfl (pv 0) (by rfl) (T.free 9) (by decide +kernel))) (pg_tup rfl (pgs_cons (pg_name (i := 2) scOpp.nd rfl (Or.inl rfl)) (pgs_cons (pg_name (i := 3) scOpp.nd rfl (Or.inl rfl)) pgs_nil)))
        (pss_one (ps_asg (pv 3) (pg_sub (pv 1) (pe_op op_sub pe_int (pv 2)) (set_dict (hu_of hr))))))
    (pss_one (ps_ret (pv 1)))), ?_⟩
  obtain ⟨p, e, rfl, hp, nd, l1, Qk⟩ := h
  refine fun d hd => ⟨_, rfl, items_of (K := K) (Ext.upd hd _ _ hp) fun H1 l ts e1 hl hts hits => ⟨l, rfl, ⟨_, hits.1⟩, ?_⟩⟩
  have e0 : Ext H H1 := (Ext.upd hd).trans e1
  refine pairs_for hts (fun t σ H' => Ext H H' ∧ ItsAt K H' l ts e ∧ ∃ (g : Ent) (v2 v3 : Option V), H' d = some (.dK (eKV g)) ∧ ND g ∧ (∀ k, ev g k = ev (e.take t) (-k)) ∧ g.length ≤ t ∧
    σ = [some (.ref p), some (.ref d), v2, v3]) ⟨e0, hits, [], none, none, e1 _ _ upd_same, ⟨List.nodup_nil, fun _ h => nomatch h⟩, fun k => rfl, Nat.zero_le _, rfl⟩ (fun t σ H' _ pv => pv.2.1) (fun t x σ H' hx pv => ?_) (fun σ H' pv => ?_)
  · obtain ⟨e2, its, g, v2, v3, hg, ng, hev, hgl, rfl⟩ := pv
    have ht := lt_of_get hx
    refine ⟨_, rfl, _, rfl, _, rfl, _, _, rfl, rfl, d, _, rfl, DPut.k (k := Sum.inl (0 - x.1)) hg (by rw [eKV, List.length_map, sizeLine_eq]; omega), ?_⟩
    rw [put_eKV]
    refine ⟨extPut e2 hd, ItsAt.offD hg its, _, _, _, upd_same, ⟨kn_put ng.1 _ _, fun y hy => ?_⟩, fun k => ?_, ?_, rfl⟩
    · rcases mem_put hy with rfl | hy
      · exact nd.2 x (List.mem_of_getElem? hx)
      · exact ng.2 y hy
    · rw [ev_put ng.1, ev_take hx]
      by_cases z : k = 0 - x.1
      · rw [if_pos z, if_pos (by omega), show -k = x.1 by omega, ev_none (key_new nd.1 hx)]; omega
      · rw [if_neg z, if_neg (by omega), hev]; omega
    · have := len_put g (0 - x.1) x.2
      omega
  · obtain ⟨e2, its, g, v2, v3, hg, ng, hev, hgl, rfl⟩ := pv
    rw [List.take_length] at hev
    exact ⟨_, rfl, Qk g d H' e2 hg ng hev hgl⟩
/-- _law_raised -/
def spRai : Sp := fun vs H Q _ => ∃ (p : Addr) (n : Nat) (e : Ent), vs = [.ref p, .int n] ∧ H p = some (.dK (eKV e)) ∧ (∀ x ∈ e, -(2 ^ 64) < x.2 ∧ x.2 < 2 ^ 64) ∧ e.length ≤ 4 ∧ n ≤ 5 ∧
  ∀ g d H', Ext H H' → H' d = some (.dK (eKV g)) → ND g → (∀ k, ev g k = pwF e n k) → g.length ≤ 1024 → Q (.ref d) H'
abbrev nmRai : List Str := ["_law_one", "_law_many", "_law_found", "_law_turn"]
theorem scRai : FnScope nmRai ["_law_one", "_law_many"] (defScope (top 42)) := C8.fnScope_by (by decide +kernel)
theorem four_le {n : Nat} (h : n ≤ 5) : 4 ^ n ≤ 1024 := Nat.le_trans (Nat.pow_le_pow_right (by decide) h) (by decide)
theorem cal_rai (T : Txt K mg) : C8.Cal P w K mg base 3 "_law_raised" spRai [] := by
  refine calF (k := 2) (T.fn 30 rfl rfl) scRai (fun _ _ _ _ _ _ us hl => match us, hl with | [_, _], _ => rfl) (fun vs H Q E h => by obtain ⟨_, _, _, rfl, _⟩ := h; rfl) (fun f cdv A outer s H vs Q E hr h => ?_)
  refine ⟨_, pss_cons (ps_set (i := 2) scRai.nd rfl (Or.inl rfl) (pe_disp (pps_cons pe_int pe_int pps_nil) rfl rfl (by simp) (by decide)))
    (pss_cons (ps_for PassesOwn.never rfl (pi_range1 (by rfl) (T.free 12) (pa_cons (pv 1) pa_nil)) (pg_name (i := 3) scRai.nd rfl (Or.inl rfl))
        (pss_one (ps_set (i := 2) scRai.nd rfl (Or.inl rfl) (C8.pe_c (cal_mul T) hr (by decide) (by rfl) (pa_cons (pv 2) (pa_cons (pv 0) pa_nil))))))
    (pss_one (ps_ret (pv 2)))), ?_⟩
  obtain ⟨p, n, e, rfl, hp, hb, l1, hn, Qk⟩ := h
  refine fun d0 hd0 => ⟨upd_same, [(Sum.inl 0, V.int 1)], rfl, by decide, ?_⟩
  have e0 : Ext H (upd (upd H d0 (.dK [])) d0 (.dK (mergeK [] [(Sum.inl 0, V.int 1)]))) := extPut (Ext.upd hd0) hd0
  refine ⟨_, rfl, n, rfl, by omega, by omega, for_range (n := n) (fun t σ H' => Ext H H' ∧ ∃ (d : Addr) (g : Ent) (v3 : Option V), H' d = some (.dK (eKV g)) ∧ ND g ∧ (∀ k, ev g k = pwF e t k) ∧ g.length ≤ 4 ^ t ∧
    σ = [some (.ref p), some (.int n), some (.ref d), v3]) ⟨e0, d0, [(0, 1)], none, upd_same, ⟨by unfold KN keys; simp, fun x hx => by rw [List.mem_singleton.mp hx]; show (1 : Int) ≠ 0; decide⟩, fun k => ?_, Nat.le_refl _, rfl⟩ (fun t σ H' ht pv => ?_) (fun σ H' pv => ?_)⟩
  · exact (pw_ent e 0 k).symm
  · obtain ⟨e1, d, g, v3, hg, ng, hev, hgl, rfl⟩ := pv
    have h4 := four_le (n := t) (by omega)
    refine ⟨_, rfl, _, rfl, d, p, g, e, rfl, hg, e1 _ _ hp, ng.1, hb, by omega, by omega, fun g2 d2 H2 e2 hg2 n2 hv2 hl2 => ?_⟩
    refine ⟨e1.trans e2, d2, g2, _, hg2, n2, fun k => ?_, ?_, rfl⟩
    · rw [hv2, cv_congr hev]
      rfl
    · rw [Nat.pow_succ]
      exact Nat.le_trans hl2 (Nat.mul_le_mul hgl l1)
  · obtain ⟨e1, d, g, v3, hg, ng, hev, hgl, rfl⟩ := pv
    exact ⟨_, rfl, Qk g d H' e1 hg ng hev (Nat.le_trans hgl (four_le hn))⟩
end
end Lau
end
section
/-! ## part L5 -/
set_option maxHeartbeats 4000000
namespace Lau
open PySem PySem.Spec PyProof.Rows L2
theorem tab_succ (n : Nat) (f : Int → Int) : tab (n + 1) f = tab n f ++ [f n] := by
  unfold tab
  rw [List.range_succ, List.map_append]
  rfl
section
variable {P : Program} {w : World} {K : PySem.W.Frag} {mg : Str → Option Value} {base : Heap}
/-- _law_written -/
def spWri : Sp := fun vs H Q _ => ∃ (p : Addr) (e : Ent) (r : Raw), vs = [.ref p] ∧ H p = some (.dK (eKV e)) ∧ ND e ∧ (∀ k, ev e k = rat r k) ∧ TB r ∧ ∀ H', Ext H H' → Q (.str (txt r)) H'
abbrev nmWri : List Str := ["_law_one", "_law_some", "_law_spot"]
theorem scWri : FnScope nmWri ["_law_one"] (defScope (top 39)) := C8.fnScope_by (by decide +kernel)
def rCatS : R2 := fun x y H Q => ∃ i j, x = .str i ∧ y = .str j ∧ i.length + j.length ≤ sizeLine ∧ Q (.str (i ++ j)) H
def rStrI : List V → Hp → VK → Prop := fun xs H Q => ∃ i, xs = [.int i] ∧ i.natAbs.log2 < 1920 ∧ Q (.str (toString i)) H
theorem cal_wri (T : Txt K mg) : C8.Cal P w K mg base 1 "_law_written" spWri [] := by
  refine calF (k := 0) (T.fn 27 rfl rfl) scWri (fun _ _ _ _ _ _ us hl => match us, hl with | [_], _ => rfl) (fun vs H Q E h => by obtain ⟨_, _, _, rfl, _⟩ := h; rfl) (fun f cdv A outer s H vs Q E hr h => ?_)
  refine ⟨_, pss_cons (ps_setLc (i := 1) (own := [("_law_spot", 2)]) (g := gName 2) (tt := tYes) (te := tOp rCatS (tOp rCatS (tCB rStrI (tCons (tDGet (tVar 0) (tVar 2)) tNil)) (tC (.str "q"))) (tCB rStrI (tCons (tVar 2) tNil))) rfl scWri.nd rfl rfl (sw_true rfl rfl rfl (by decide +kernel))
        (pi_list (pe_callB cr_sortedI (by rfl) (T.free 14) (by decide +kernel) (pa_cons (pe_callTy (call_list_dK rfl) (by rfl) (T.free 9) (by decide +kernel) (pa_cons (pv 0) pa_nil)) pa_nil))) (blkOk_by (N := nmWri) (sc := defScope (top 39)) (by decide +kernel))
        (fun _ _ _ _ _ => pg_name (i := 2) scWri.nd rfl (Or.inl rfl)) (fun _ _ _ _ _ => pts_nil)
        (fun _ _ _ _ _ => pe_op op_add_str (pe_op op_add_str (pe_callTy call_str_int (by rfl) (T.free 15) (by decide +kernel) (pa_cons (pe_dget (hu_of hr) (pv 0) (pv 2) (fun _ _ => rfl)) pa_nil)) pe_str) (pe_callTy call_str_int (by rfl) (T.free 15) (by decide +kernel) (pa_cons (pv 2) pa_nil))))
    (pss_one (ps_ret (pe_ifExp (pt_cmpR (op_neD hr.units) (pv 1) (pe_lst pa_nil) (nomark _)) (pe_join pe_str (pv 1)) pe_str))), ?_⟩
  obtain ⟨p, e, r, rfl, hp, nd, hev, b, Qk⟩ := h
  refine ⟨_, rfl, p, _, rfl, hp, fun l hl => ?_⟩
  rw [keys_eKV]
  refine ⟨l, keys e, rfl, SqL.of upd_same, fun L l2 hperm hsort hl2 => ⟨l2, rfl, ⟨_, SqL.of upd_same⟩, fun D hD => ?_⟩⟩
  have hM := sorted_nz nd hev hperm hsort
  have e1 : Ext H (upd (upd H l (.lst ((keys e).map V.int))) l2 (.lst (L.map V.int))) := (Ext.upd hl).upd' hl2
  have hl2' : SqL K (upd (upd H l (.lst ((keys e).map V.int))) l2 (.lst (L.map V.int))) l2 (L.map V.int) := SqL.of upd_same
  have hLM : L.length = (nzL r).length := by rw [← hM, List.length_map]
  generalize upd (upd H l (.lst ((keys e).map V.int))) l2 (.lst (L.map V.int)) = G at e1 hl2' hD
  have hD0 : H D = none := by
    cases q : H D with
    | none => rfl
    | some o => rw [e1 _ _ q] at hD; cases hD
  refine lc_list (xs := L.map V.int) (fun k H' => Ext G H' ∧ H' D = some (.lst ((((nzL r).take k).map pc).map V.str))) ⟨Ext.upd hD, upd_same⟩ (fun k H' _ pv => hl2'.ext pv.1) (fun k x H' hx pv => ?_) (fun H' pv => ?_)
  · obtain ⟨e2, hDk⟩ := pv
    rw [List.getElem?_map] at hx
    obtain ⟨s0, hs, rfl⟩ := Option.map_eq_some_iff.mp hx
    have hkl := lt_of_get hs
    have hmem : s0 ∈ keys e := hperm.mem_iff.mp (List.mem_of_getElem? hs)
    obtain ⟨y, hy, hy1⟩ := List.mem_map.mp hmem
    have hMk : (nzL r)[k]? = some (s0, ev e s0) := by rw [← hM, List.getElem?_map, hs]; rfl
    have hm := List.mem_of_getElem? hMk
    obtain ⟨b1, b2, b3, b4⟩ := b.mem hm
    have ey : y.2 = ev e s0 := by rw [← hy1, ev_mem nd.1 hy]
    have l1 : (Str.ofString (toString (ev e s0)) : Str).length ≤ 182 := by rw [itl_S, SX.S_len]; exact b3
    have l2 : (Str.ofString (toString s0) : Str).length ≤ 8 := by rw [itl_S, SX.S_len]; exact b4
    have la : ∀ x y : Str, (x ++ y).length = x.length + y.length := fun x y => by rw [TL.len_tl, TL.tl_append, List.length_append, ← TL.len_tl, ← TL.len_tl]
    have lq : (Str.ofString "q" : Str).length = 1 := by rw [q_S, SX.S_len]; rfl
    have hg : DGet H' p (.int s0) (some (.int (ev e s0))) := by
      have := dgetS (e2 _ _ (e1 _ _ hp)) nd.1 hy
      rw [hy1, ey] at this
      exact this
    have hbn := b.nz
    refine ⟨rfl, ?_⟩
    unfold tYes
    dsimp only
    rw [if_pos rfl]
    refine ⟨_, rfl, _, rfl, p, _, rfl, hg, _, rfl, log600 b1, _, _, rfl, rfl, by rw [lq, sizeLine_eq]; omega, _, rfl, s0, rfl, logSmall b2, _, _, rfl, rfl, by rw [la, lq, sizeLine_eq]; omega, _, hDk, by rw [List.length_map, List.length_map, List.length_take, sizeLine_eq]; omega, extPut e2 hD, ?_⟩
    rw [upd_same, List.take_add_one, hMk]
    simp only [Option.toList_some, List.map_append, List.map_cons, List.map_nil]
    rw [← pc_eq]
  · obtain ⟨e2, hDk⟩ := pv
    rw [List.length_map, hLM, List.take_length] at hDk
    refine ⟨_, rfl, by show 0 ≤ sizeLine; exact Nat.zero_le _, fun p1 hp1 => neStrs (l := (nzL r).map pc) (fun x hx => ?_) (SqL.of hDk) hp1 ⟨_, rfl, ?_⟩⟩
    · obtain ⟨z, _, rfl⟩ := List.mem_map.mp hx
      exact strOk_pc z
    · have q := Qk _ ((e1.trans e2).upd' (o := .lst []) hp1)
      by_cases z : nzL r = []
      · refine iteN (by simp [z]) ?_
        unfold txt at q
        rw [if_pos z] at q
        exact q
      · refine iteY (by simp [z]) ⟨⟨_, rfl⟩, _, rfl, _, D, (nzL r).map pc, rfl, rfl, .inl (SqL.of (by rw [upd_ne (ne_of_none hDk hp1)]; exact hDk)), ?_, ?_⟩
        · have := b.total
          have lsp : (Str.ofString " " : Str).length = 1 := by rw [sp_S, SX.S_len]; rfl
          rw [lsp]
          omega
        · unfold txt at q
          rw [if_neg z] at q
          exact q
/-- Laurent(lo, cs) made -/
theorem mk_lau {H : Hp} {lo : Int} {t : Addr} {cs : List Int} {Q : VK} (ht : SqT K H t (cs.map V.int)) (h1 : -400 ≤ lo) (h2 : lo ≤ 400) (h3 : cs.length ≤ 800)
    (q : ∀ r x H', Ext H H' → Nrm r → (∀ k, rat r k = rat (lo, cs) k) → LauAt K H' x r → Q (.ref x) H') :
    ∀ x dx, H x = none → H dx = none → dx ≠ x → spInit K [.ref x, .int lo, .ref t, .non] (upd (upd H dx (.own x)) x (.ins (LC K) dx [])) (fun v H2 => v = .non ∧ Q (.ref x) H2) E0 := fun x dx hx hdx hne => by
  have e2 : Ext H (upd (upd H dx (.own x)) x (.ins (LC K) dx [])) := (Ext.upd hdx).upd' (by rw [upd_ne (Ne.symm hne)]; exact hx)
  refine ⟨x, dx, lo, t, cs, .non, rfl, upd_same, ht.ext e2, .inl ⟨rfl, h1, h2, h3, fun r p H1 e3 n hr hp => ⟨rfl, ?_⟩⟩⟩
  have hx1 := e3 _ _ (show (upd (upd H dx (.own x)) x (.ins (LC K) dx [])) x = some (.ins (LC K) dx []) from upd_same)
  exact q r x _ (extPut (e2.trans e3) hx) n hr ⟨dx, p, upd_same, RawAt.offI hx1 hp⟩
/-- _law_laurent -/
def spLLa (K : PySem.W.Frag) : Sp := fun vs H Q _ => ∃ (p : Addr) (e : Ent), vs = [.ref p] ∧ H p = some (.dK (eKV e)) ∧ ND e ∧ (∀ y ∈ e, -100 ≤ y.1 ∧ y.1 ≤ 100) ∧
  ∀ r x H', Ext H H' → Nrm r → (∀ k, rat r k = ev e k) → LauAt K H' x r → Q (.ref x) H'
abbrev nmLLa : List Str := ["_law_one", "_law_low", "_law_high", "_law_spot"]
theorem scLLa : FnScope nmLLa ["_law_one"] (defScope (top 40)) := C8.fnScope_by (by decide +kernel)
theorem cal_lla (T : Txt K mg) : C8.Cal P w K mg base 6 "_law_laurent" (spLLa K) [] := by
  obtain ⟨fd, F⟩ := funInit T
  obtain ⟨ds, dv, b⟩ := bInit1 F
  refine calF (k := 5) (T.fn 28 rfl rfl) scLLa (fun _ _ _ _ _ _ us hl => match us, hl with | [_], _ => rfl) (fun vs H Q E h => by obtain ⟨_, _, rfl, _⟩ := h; rfl) (fun f cdv A outer s H vs Q E hr h => ?_)
  refine ⟨_, pss_cons (ps_if (pt_cmpR (op_eqDD (Nat.lt_of_succ_lt (hu_of hr))) (pv 0) pe_dnewK (nomark _)) (pss_one (ps_ret (pe_make T.mkC (ok_init T F) hr (by rfl) T.gC b dv pass0 (pa_cons pe_int (pa_cons (pe_tup pa_nil) pa_nil))))) pss_nil)
    (pss_cons (ps_par (i := 1) (j := 2) rfl scLLa.nd rfl rfl (by decide) rfl rfl (pa_cons (pe_callB (cr_min rfl) (by rfl) (T.free 11) (by decide +kernel) (pa_cons (pe_callTy (call_list_dK rfl) (by rfl) (T.free 9) (by decide +kernel) (pa_cons (pv 0) pa_nil)) pa_nil))
        (pa_cons (pe_callB (cr_max rfl) (by rfl) (T.free 10) (by decide +kernel) (pa_cons (pe_callTy (call_list_dK rfl) (by rfl) (T.free 9) (by decide +kernel) (pa_cons (pv 0) pa_nil)) pa_nil)) pa_nil)) (by rfl))
    (pss_one (ps_ret (pe_make T.mkC (ok_init T F) hr (by rfl) T.gC b dv pass0 (pa_cons (pv 1) (pa_cons (pe_callTy call_tuple_of (by rfl) (T.free 17) (by decide +kernel) (pa_cons
      (pe_lc (own := [("_law_spot", 3)]) (g := gName 3) (tt := tYes) (te := tDGet2 (tVar 0) (tVar 3) (tC (.int 0))) rfl scLLa.nd (pi_range2 (by rfl) (T.free 12) (pa_cons (pv 1) (pa_cons (pe_op op_add (pv 2) pe_int) pa_nil))) (blkOk_by (N := nmLLa) (sc := defScope (top 40)) (by decide +kernel))
        (fun _ _ _ _ _ => pg_name (i := 3) scLLa.nd rfl (Or.inl rfl)) (fun _ _ _ _ _ => pts_nil) (fun _ _ _ _ _ => pe_dget2 (hu_of hr) (pv 0) (pv 3) pe_int ⟨rfl, rfl, rfl, rfl⟩)) pa_nil)) pa_nil)))))), ?_⟩
  obtain ⟨p, e, rfl, hp, nd, hb, Qk⟩ := h
  refine ⟨_, rfl, fun d0 hd0 => ⟨p, d0, e, [], rfl, rfl, Ext.upd hd0 _ _ hp, upd_same, _, rfl, ?_⟩⟩
  have e0 : Ext H (upd H d0 (.dK [])) := Ext.upd hd0
  by_cases he : e = []
  · refine iteY (by rw [he]; rfl) ⟨Nat.zero_le _, fun t ht => ?_⟩
    refine mk_lau (K := K) (cs := []) (SqT.of upd_same) (by decide) (by decide) (by decide) fun r x H' e1 n hr' hx => ?_
    exact Qk r x H' ((e0.upd' ht).trans e1) n (fun k => by rw [hr', rat_nil, he]; rfl) hx
  · refine iteN (by cases e with | nil => exact absurd rfl he | cons a l => rfl) ?_
    have hkl : 0 < (keys e).length := by
      unfold keys
      rw [List.length_map]
      exact List.length_pos_iff.mpr he
    refine ⟨_, rfl, p, _, rfl, e0 _ _ hp, fun l1 hl1 => ?_⟩
    rw [keys_eKV]
    refine ⟨l1, keys e, rfl, SqL.of upd_same, hkl, fun a ha ha' => ⟨_, rfl, p, _, rfl, (e0.upd' hl1) _ _ hp, fun l2 hl2 => ?_⟩⟩
    rw [keys_eKV]
    refine ⟨l2, keys e, rfl, SqL.of upd_same, hkl, fun c hc hc' => ⟨_, _, rfl, ?_⟩⟩
    have e1 := (e0.upd' (o := .lst ((keys e).map V.int)) hl1).upd' (o := .lst ((keys e).map V.int)) hl2
    generalize upd (upd (upd H d0 (.dK [])) l1 (.lst ((keys e).map V.int))) l2 (.lst ((keys e).map V.int)) = G at e1
    obtain ⟨ya, hya, hya1⟩ := List.mem_map.mp ha
    obtain ⟨yc, hyc, hyc1⟩ := List.mem_map.mp hc
    have ba := hb ya hya
    have bc := hb yc hyc
    have hac := ha' c hc
    obtain ⟨n, hn⟩ : ∃ n : Nat, c + 1 - a = n := ⟨(c + 1 - a).toNat, by omega⟩
    have hnn : (c + 1 - a).toNat = n := by omega
    refine ⟨_, rfl, _, rfl, _, rfl, _, _, rfl, rfl, a, c + 1, rfl, ⟨by omega, by omega, by omega, by omega⟩, fun D hD => ?_⟩
    rw [hnn]
    have hD0 : H D = none := by
      cases q : H D with
      | none => rfl
      | some o => rw [e1 _ _ q] at hD; cases hD
    refine lc_range (lo := a) (n := n) (fun k H' => Ext G H' ∧ H' D = some (.lst ((tab k fun j => (lkp e (a + j)).getD 0).map V.int))) ⟨Ext.upd hD, upd_same⟩ (fun k H' hk pv => ?_) (fun H' pv => ?_)
    · obtain ⟨e2, hDk⟩ := pv
      refine ⟨rfl, ?_⟩
      unfold tYes
      dsimp only
      rw [if_pos rfl]
      refine ⟨_, rfl, p, rfl, isD (e2 _ _ (e1 _ _ hp)), _, rfl, _, dgetE (e2 _ _ (e1 _ _ hp)) _, _, hDk, by rw [len_tab, sizeLine_eq]; omega, extPut e2 hD, ?_⟩
      rw [upd_same, getD_int, tab_succ, List.map_append]
      rfl
    · obtain ⟨e2, hDk⟩ := pv
      refine ⟨D, _, rfl, .inl ⟨SqL.of hDk, fun t ht => ?_⟩⟩
      refine mk_lau (K := K) (cs := tab n fun j => (lkp e (a + j)).getD 0) (SqT.of upd_same) (by omega) (by omega) (by rw [tab_len]; omega) fun r x H3 e3 nr hr' hx => ?_
      refine Qk r x H3 (((e1.trans e2).upd' ht).trans e3) nr (fun k => ?_) hx
      rw [hr']
      have et : (tab n fun j => (lkp e (a + j)).getD 0) = tab n fun j => ev e (a + j) := tab_congr fun j _ => lkp_get nd.1 _
      rw [et]
      refine rat_tab (F := ev e) (fun k hk => ?_) k
      by_cases q : k ∈ keys e
      · have := ha' k q
        have := hc' k q
        omega
      · exact ev_none q
end
end Lau
end
section
/-! ## part L6 -/
set_option maxHeartbeats 4000000
namespace Lau
open PySem PySem.Spec PyProof.Rows L2
section
variable {X : Cx} {j : Nat}
theorem d_add : PySem.dunder Operator.Add.info.2 = ("__add__" : Str) := by first | rfl | decide +kernel
theorem d_radd : dunderR Operator.Add.info.2 = ("__radd__" : Str) := by first | rfl | decide +kernel
theorem d_sub : PySem.dunder Operator.Sub.info.2 = ("__sub__" : Str) := by first | rfl | decide +kernel
theorem d_rsub : dunderR Operator.Sub.info.2 = ("__rsub__" : Str) := by first | rfl | decide +kernel
theorem d_mul : PySem.dunder Operator.Mult.info.2 = ("__mul__" : Str) := by first | rfl | decide +kernel
theorem d_rmul : dunderR Operator.Mult.info.2 = ("__rmul__" : Str) := by first | rfl | decide +kernel
theorem d_pow : PySem.dunder Operator.Pow.info.2 = ("__pow__" : Str) := by first | rfl | decide +kernel
theorem d_rpow : dunderR Operator.Pow.info.2 = ("__rpow__" : Str) := by first | rfl | decide +kernel
theorem addL (T : Txt X.K X.mg) (hr : Room j X.A) (hk : 7 ≤ j) : OpR X (binaryOp .Add) (rBin (LC X.K) (spB X.K fun r g k => rat r k + g k)) := by
  obtain ⟨fd, ps, F, b⟩ := (fn_add (P := X.prog) (w := X.w) (base := X.base) T).ex
  exact op_own F (hr.mono hk) b T.own (by rw [d_add]; exact T.sp 3 rfl) (by rw [d_radd]; exact (T.met 4 rfl).at_) (.inr ⟨_, rfl⟩) (fo := some (.builtin "int.__add__")) (ro := some (.builtin "int.__radd__")) (by kernel_rfl) (by kernel_rfl)
theorem subL (T : Txt X.K X.mg) (hr : Room j X.A) (hk : 7 ≤ j) : OpR X (binaryOp .Sub) (rBin (LC X.K) (spB X.K fun r g k => rat r k - g k)) := by
  obtain ⟨fd, ps, F, b⟩ := (fn_sub (P := X.prog) (w := X.w) (base := X.base) T).ex
  exact op_own F (hr.mono hk) b T.own (by rw [d_sub]; exact T.sp 5 rfl) (by rw [d_rsub]; exact (T.met 6 rfl).at_) (.inr ⟨_, rfl⟩) (fo := some (.builtin "int.__sub__")) (ro := some (.builtin "int.__rsub__")) (by kernel_rfl) (by kernel_rfl)
theorem mulL (T : Txt X.K X.mg) (hr : Room j X.A) (hk : 7 ≤ j) : OpR X (binaryOp .Mult) (rBin (LC X.K) (spB X.K fun r g k => cv (rowE r.1 r.2) g k)) := by
  obtain ⟨fd, ps, F, b⟩ := (fn_mul (P := X.prog) (w := X.w) (base := X.base) T).ex
  exact op_own F (hr.mono hk) b T.own (by rw [d_mul]; exact T.sp 7 rfl) (by rw [d_rmul]; exact (T.met 8 rfl).at_) (.inr ⟨_, rfl⟩) (fo := some (.builtin "int.__mul__")) (ro := some (.builtin "int.__rmul__")) (by kernel_rfl) (by kernel_rfl)
theorem powL (T : Txt X.K X.mg) (hr : Room j X.A) (hk : 8 ≤ j) : OpR X (binaryOp .Pow) (rBin (LC X.K) (spPow X.K)) := by
  obtain ⟨fd, ps, F, b⟩ := (fn_pow (P := X.prog) (w := X.w) (base := X.base) T).ex
  exact op_own F (hr.mono hk) b T.own (by rw [d_pow]; exact T.sp 10 rfl) (by rw [d_rpow]; exact T.cls.rpow) (.inl rfl) (fo := some (.builtin "int.__pow__")) (ro := some (.builtin "int.__rpow__")) (by kernel_rfl) (by kernel_rfl)
theorem raddL (T : Txt X.K X.mg) (hr : Room j X.A) (hk : 7 ≤ j) : OpR X (binaryOp .Add) (rRef (LC X.K) (spB X.K fun r g k => rat r k + g k)) := by
  obtain ⟨fd, ps, F, b⟩ := (fn_radd (P := X.prog) (w := X.w) (base := X.base) T).ex
  exact op_ref F (hr.mono hk) b T.own (by rw [d_add]; exact T.sp 3 rfl) (by rw [d_radd]; exact T.sp 4 rfl) PySem.F.fills_int_add PySem.F.slot_int_add (fun i t x dx s E h => decl_add i t x dx s E h)
theorem rsubL (T : Txt X.K X.mg) (hr : Room j X.A) (hk : 7 ≤ j) : OpR X (binaryOp .Sub) (rRef (LC X.K) (spB X.K fun r g k => g k - rat r k)) := by
  obtain ⟨fd, ps, F, b⟩ := (fn_rsub (P := X.prog) (w := X.w) (base := X.base) T).ex
  exact op_ref F (hr.mono hk) b T.own (by rw [d_sub]; exact T.sp 5 rfl) (by rw [d_rsub]; exact T.sp 6 rfl) PySem.F.fills_int_sub PySem.F.slot_int_sub (fun i t x dx s E h => decl_sub i t x dx s E h)
theorem rmulL (T : Txt X.K X.mg) (hr : Room j X.A) (hk : 7 ≤ j) : OpR X (binaryOp .Mult) (rRef (LC X.K) (spB X.K fun r g k => cv (rowE r.1 r.2) g k)) := by
  obtain ⟨fd, ps, F, b⟩ := (fn_rmul (P := X.prog) (w := X.w) (base := X.base) T).ex
  exact op_ref F (hr.mono hk) b T.own (by rw [d_mul]; exact T.sp 7 rfl) (by rw [d_rmul]; exact T.sp 8 rfl) PySem.F.fills_int_mul PySem.F.slot_int_mul (fun i t x dx s E h => decl_mul i t x dx s E h)
theorem negL (T : Txt X.K X.mg) (hr : Room j X.A) (hk : 7 ≤ j) : UnR X (unaryOp .USub) (rNeg (LC X.K) (spNeg X.K)) := by
  obtain ⟨fd, ps, F, b⟩ := (fn_neg (P := X.prog) (w := X.w) (base := X.base) T).ex
  exact un_own F (hr.mono hk) b (T.sp 9 rfl)
theorem boolL (T : Txt X.K X.mg) (hr : Room j X.A) (hk : 3 ≤ j) : CallR X (.type "bool") (rBoolO (LC X.K) (spBoolL X.K)) := by
  obtain ⟨fd, ps, F, b⟩ := (fn_bool (P := X.prog) (w := X.w) (base := X.base) T).ex
  exact call_boolO F (hr.mono hk) b (T.sp 2 rfl)
theorem eqL (T : Txt X.K X.mg) (hr : Room j X.A) (hk : 3 ≤ j) : OpR X (compareOp .Eq) (rOwnC (LC X.K) (spEqL X.K) id) := by
  obtain ⟨fd, ps, F, b⟩ := (fn_eq (P := X.prog) (w := X.w) (base := X.base) T).ex
  exact op_eqO F (hr.mono hk) b T.own (T.sp 1 rfl)
theorem neL' (T : Txt X.K X.mg) (hr : Room j X.A) (hk : 4 ≤ j) : OpR X (compareOp .NotEq) (rOwnC (LC X.K) (spEqL X.K) Bool.not) := by
  obtain ⟨fd, ps, F, b⟩ := (fn_eq (P := X.prog) (w := X.w) (base := X.base) T).ex
  exact op_neO F (hr.mono hk) b T.own (T.sp 1 rfl) T.cls.ne
/-- two laurents compared -/
theorem own_LL {K : PySem.W.Frag} {H : Hp} {a b : Addr} {r r' : Raw} {g : Bool → Bool} {Q : VK} (ha : LauAt K H a r) (hb : LauAt K H b r') (q : Q (.bl (g (decide (r = r')))) H) : rOwnC (LC K) (spEqL K) g (.ref a) (.ref b) H Q := by
  obtain ⟨dx, p, h1, _⟩ := id ha
  obtain ⟨dy, p', h2, _⟩ := id hb
  exact ⟨a, dx, _, rfl, h1, .inl ⟨b, dy, _, rfl, h2⟩, a, .ref b, r, rfl, ha, .inl ⟨b, r', rfl, hb, _, rfl, q⟩⟩
theorem own_LI {K : PySem.W.Frag} {H : Hp} {a : Addr} {r : Raw} {i : Int} {g : Bool → Bool} {Q : VK} (ha : LauAt K H a r) (q : Q (.bl (g false)) H) : rOwnC (LC K) (spEqL K) g (.ref a) (.int i) H Q := by
  obtain ⟨dx, p, h1, _⟩ := id ha
  exact ⟨a, dx, _, rfl, h1, .inr (.inl ⟨i, rfl⟩), a, .int i, r, rfl, ha, .inr ⟨.inl ⟨i, rfl⟩, _, rfl, q⟩⟩
theorem own_LS {K : PySem.W.Frag} {H : Hp} {a : Addr} {r : Raw} {z : Str} {g : Bool → Bool} {Q : VK} (ha : LauAt K H a r) (q : Q (.bl (g false)) H) : rOwnC (LC K) (spEqL K) g (.ref a) (.str z) H Q := by
  obtain ⟨dx, p, h1, _⟩ := id ha
  exact ⟨a, dx, _, rfl, h1, .inr (.inr ⟨z, rfl⟩), a, .str z, r, rfl, ha, .inr ⟨.inr ⟨z, rfl⟩, _, rfl, q⟩⟩
end
/-! what repr shows of a laurent -/
theorem shown_ints : ∀ cs : List Int, (∀ c ∈ cs, c.natAbs.log2 < 1920) → PyData.showableAll (cs.map .int) = true
  | [], _ => by simp [PyData.showableAll]
  | c :: cs, h => by
    simp only [List.map, PyData.showableAll, PyData.showable, shown_ints cs (fun x hx => h x (List.mem_cons_of_mem _ hx)), decide_eq_true (h c List.mem_cons_self), Bool.and_self]
theorem noDict_ints : ∀ cs : List Int, PyData.hasDictAll (cs.map .int) = false
  | [] => by simp [PyData.hasDictAll]
  | c :: cs => by simp only [List.map, PyData.hasDictAll, PyData.hasDict, noDict_ints cs, Bool.or_self]
theorem short_ints : ∀ cs : List Int, (∀ c ∈ cs, (itl c).length ≤ 190) → PyData.leavesShortAll 190 (cs.map .int) = true
  | [], _ => by simp [PyData.leavesShortAll]
  | c :: cs, h => by
    have h1 := h c List.mem_cons_self
    have e : (PyData.shown (.int c)).length = (itl c).length := by
      show (Str.ofString (toString c)).length = _
      rw [itl_S, SX.S_len]
    simp only [List.map, PyData.leavesShortAll, PyData.leavesShort, short_ints cs (fun x hx => h x (List.mem_cons_of_mem _ hx)), e, decide_eq_true h1, Bool.and_self]
theorem bulk_ints : ∀ cs : List Int, PyData.bulkAll (cs.map .int) = cs.length
  | [] => rfl
  | c :: cs => by simp only [List.map, PyData.bulkAll, PyData.bulk, bulk_ints cs, List.length_cons]; omega
def lauD (lo hi : Int) (cs : List Int) (tot : Int) : PyData := .list [.int lo, .int hi, .tuple (cs.map .int), .int tot]
theorem lauD_ok {lo hi tot : Int} {cs : List Int} (h1 : lo.natAbs < 10000000) (h2 : hi.natAbs < 10000000) (h3 : ∀ c ∈ cs, c.natAbs < 2 ^ 600) (h4 : tot.natAbs < 2 ^ 620) (h5 : cs.length ≤ 2000) :
    (lauD lo hi cs tot).showable = true ∧ (lauD lo hi cs tot).hasDict = false ∧ (lauD lo hi cs tot).depth ≤ 20 ∧ (lauD lo hi cs tot).shown.length ≤ sizeLine := by
  have t1 : (2 : Nat) ^ 620 < 10 ^ 187 := by decide +kernel
  have lg4 : tot.natAbs.log2 < 1920 := by have := PySem.Flt.log2_lt_of (by decide) h4; omega
  have s1 : (itl lo).length ≤ 190 := by have := itl_len (k := 7) (by decide) h1; omega
  have s2 : (itl hi).length ≤ 190 := by have := itl_len (k := 7) (by decide) h2; omega
  have s4 : (itl tot).length ≤ 190 := by have := itl_len (k := 187) (by decide) (Nat.lt_trans h4 t1); omega
  have s3 : ∀ c ∈ cs, (itl c).length ≤ 190 := fun c hc => by have := itl_len (k := 181) (by decide) (Nat.lt_trans (h3 c hc) two600); omega
  have e : ∀ c : Int, (PyData.shown (.int c)).length = (itl c).length := fun c => by
    show (Str.ofString (toString c)).length = _
    rw [itl_S, SX.S_len]
  refine ⟨?_, ?_, ?_, ?_⟩
  · simp only [lauD, PyData.showable, PyData.showableAll, shown_ints cs (fun c hc => log600 (h3 c hc)), decide_eq_true (logSmall h1), decide_eq_true (logSmall h2), decide_eq_true lg4, Bool.and_self]
  · simp only [lauD, PyData.hasDict, PyData.hasDictAll, noDict_ints, Bool.or_self]
  · simp only [lauD, PyData.depth, PyData.depthAll, depth_ints]
    decide
  · have sh : (lauD lo hi cs tot).leavesShort 190 = true := by
      simp only [lauD, PyData.leavesShort, PyData.leavesShortAll, e, short_ints cs s3, decide_eq_true s1, decide_eq_true s2, decide_eq_true s4, Bool.and_self]
    have h := PyData.shown_le_bulk 190 (by decide) (lauD lo hi cs tot) sh
    have b : (lauD lo hi cs tot).bulk = cs.length + 4 := by
      simp only [lauD, PyData.bulk, PyData.bulkAll, bulk_ints]; omega
    rw [b] at h
    rw [sizeLine_eq]
    have : (190 + 2) * (cs.length + 4) ≤ 192 * 2004 := Nat.mul_le_mul (by decide) (by omega)
    omega
theorem dp_lauD {K : PySem.W.Frag} {H : Hp} {a t : Addr} {lo hi tot : Int} {cs : List Int} (ha : SqL K H a [.int lo, .int hi, .ref t, .int tot]) (ht : SqT K H t (cs.map V.int)) : Dp K H (.ref a) (lauD lo hi cs tot) :=
  .lst ha (.cons (.int lo) (.cons (.int hi) (.cons (.tup ht (dp_ints cs)) (.cons (.int tot) .nil))))
theorem sum_bd : ∀ (cs : List Int) (M : Nat), (∀ c ∈ cs, c.natAbs ≤ M) → cs.sum.natAbs ≤ cs.length * M
  | [], M, _ => by simp
  | c :: cs, M, h => by
    have h1 := h c List.mem_cons_self
    have h2 := sum_bd cs M fun x hx => h x (List.mem_cons_of_mem _ hx)
    simp only [List.sum_cons, List.length_cons, Nat.add_mul]
    omega
end Lau
end
section
/-! ## part L7 -/
set_option maxHeartbeats 4000000
namespace Lau
open PySem PySem.Spec PyProof.Rows L2
/-- what a value's reading wants, told ahead of it -/
theorem thenP {te : TE} {σ : L2.St} {H : Hp} {Q : VK} (Post : V → Hp → Prop) (hd : ∀ v H, Post v H → Q v H) (body : (∀ v H, Post v H → Q v H) → te σ H Q) : te σ H Q := body hd
theorem dEq_nil (e : Ent) : dEq e [] = decide (e = []) := by
  cases e with
  | nil => rfl
  | cons p e => simp [dEq]
theorem list_keys {H : Hp} {p : Addr} {e : Ent} {Q : VK} (h : H p = some (.dK (eKV e))) (q : ∀ l, H l = none → Q (.ref l) (upd H l (.lst ((keys e).map V.int)))) : rListD [.ref p] H Q :=
  ⟨p, _, rfl, h, fun l hl => by rw [keys_eKV]; exact q l hl⟩
theorem keys_pos {e : Ent} (h : e ≠ []) : 0 < (keys e).length := by
  unfold keys
  rw [List.length_map]
  exact List.length_pos_iff.mpr h
theorem min_keys {K : PySem.W.Frag} {H : Hp} {p : Addr} {e : Ent} {Q : VK} (h : H p = some (.dK (eKV e))) (he : e ≠ []) (q : ∀ m H', Ext H H' → m ∈ keys e → (∀ y ∈ keys e, m ≤ y) → Q (.int m) H') : rListD [.ref p] H fun v H1 => rMin K [v] H1 Q :=
  list_keys h fun l hl => ⟨l, keys e, rfl, SqL.of upd_same, keys_pos he, fun m h1 h2 => q m _ (Ext.upd hl) h1 h2⟩
theorem max_keys {K : PySem.W.Frag} {H : Hp} {p : Addr} {e : Ent} {Q : VK} (h : H p = some (.dK (eKV e))) (he : e ≠ []) (q : ∀ m H', Ext H H' → m ∈ keys e → (∀ y ∈ keys e, y ≤ m) → Q (.int m) H') : rListD [.ref p] H fun v H1 => rMax K [v] H1 Q :=
  list_keys h fun l hl => ⟨l, keys e, rfl, SqL.of upd_same, keys_pos he, fun m h1 h2 => q m _ (Ext.upd hl) h1 h2⟩
theorem vals_eKV (e : Ent) : (eKV e).map (·.2) = (e.map (·.2)).map V.int := by
  unfold eKV
  rw [List.map_map, List.map_map]
  rfl
/-- [te for x in xs], xs ints, te an int -/
theorem lc_ints {K : PySem.W.Frag} {S : Addr} {xs : List Int} {i : Nat} {te : TE} {σ : L2.St} {H1 : Hp} {R : Addr → Hp → Prop} (f : Int → Int) (hS : SqL K H1 S (xs.map V.int)) (hn : xs.length ≤ 1000)
    (hs : ∀ (x : Int) H' (Q : VK), Ext H1 H' → (∀ H'', Ext H' H'' → Q (.int (f x)) H'') → te ((wipe σ [i]).set i (some (.int x))) H' Q) (hd : ∀ D H', H1 D = none → Ext H1 H' → SqL K H' D ((xs.map f).map V.int) → R D H') :
    ∀ D, H1 D = none → ∃ W : Nat → Nat → Hp → Prop, (∃ m, W 0 m (upd H1 D (.lst []))) ∧ ∀ k m H, W k m H →
      ((Itl K S).stop k H ∧ R D H) ∨ ((Itl K S).go k H ∧ ∃ Nx : Hp → Prop, (∀ H', Nx H' → ∃ m', m' < m ∧ W (k + 1) m' H') ∧ ∀ x H', (Itl K S).yld k H x H' → gName i x (wipe σ [i]) H' fun σ2 H2 => wipe σ2 [i] = wipe σ [i] ∧ tYes σ2 H2 fun b H3 =>
        if b = true then te σ2 H3 fun y H4 => ∃ acc, H4 D = some (.lst acc) ∧ acc.length < sizeLine ∧ Nx (upd H4 D (.lst (acc ++ [y]))) else Nx H3) := fun D hD => by
  refine lc_list (xs := xs.map V.int) (fun k H' => Ext H1 H' ∧ H' D = some (.lst (((xs.take k).map f).map V.int))) ⟨Ext.upd hD, upd_same⟩ (fun k H' _ pv => hS.ext pv.1) (fun k x H' hx pv => ?_) (fun H' pv => ?_)
  · obtain ⟨e1, hDk⟩ := pv
    rw [List.getElem?_map] at hx
    obtain ⟨c, hc, rfl⟩ := Option.map_eq_some_iff.mp hx
    refine ⟨by simp [wipe], ?_⟩
    unfold tYes
    dsimp only
    rw [if_pos rfl]
    refine hs c H' _ e1 fun H'' e2 => ⟨_, e2 _ _ hDk, by rw [List.length_map, List.length_map, List.length_take, sizeLine_eq]; omega, extPut (e1.trans e2) hD, ?_⟩
    rw [upd_same, List.take_add_one, hc]
    simp only [Option.toList_some, List.map_append, List.map_cons, List.map_nil]
  · obtain ⟨e1, hDk⟩ := pv
    rw [List.length_map, List.take_length] at hDk
    exact hd D H' hD e1 (SqL.of hDk)
section
variable {P : Program} {w : World} {K : PySem.W.Frag} {mg : Str → Option Value} {base : Heap}
/-- a def that asks that no repr is under way, by its body -/
theorem calG {x : Str} {i k : Nat} {N ps : List Str} {sp : Sp} (D : DefF K mg x i) (S : FnScope N ps (defScope (top i)))
    (hb : ∀ (kV doc pm : Value) (an : Option Addr) (cdv ct : Value) (us : List Value), us.length = ps.length → bindArgs (PySem.W.fnOf x x (defArgs (top i)) (defBody (top i)) (defScope (top i)) .none kV doc pm an cdv ct) ⟨us, []⟩ = pure (ps.zip us))
    (len : ∀ vs H Q E, sp vs H Q E → vs.length = ps.length)
    (hbody : ∀ (f : Addr) (cdv : Value) (A : Around) (outer : List Env) (s : Shared) (H : Hp) (vs : List V) (Q : VK), Room k (A.deeper (envOfC x (defScope (top i)) s.heap.objs.size f cdv)) → A.guards = some [] → sp vs H Q E0 →
      ∃ t, PSs (cxOf CX0 P w K mg base N x (defScope (top i)) f cdv A outer s H E0).nox (defBody (top i)) t ∧ t { nx := fun _ H' => Q .non H', rt := Q } (start N vs) H) : CalG P w K mg base (k + 1) x sp := by
  obtain ⟨f, fd, F, hm⟩ := D
  exact ⟨f, fd, ps, fnG_of F S len (fun cdv A outer s H vs Q hr hg h => hbody f cdv A outer s H vs Q hr hg h), hm, F.kp, F.bindsN hb⟩
/-- a laurent and a dict that say the same -/
structure One (e : Ent) (r : Raw) : Prop where
  nd : ND e
  nr : Nrm r
  ev : ∀ k, ev e k = rat r k
  tb : TB r
  len : r.2.length ≤ 2000
/-- _law_is_one -/
def spOne (K : PySem.W.Frag) : Sp := fun vs H Q _ => ∃ (a p : Addr) (e : Ent) (r : Raw), vs = [.ref a, .ref p] ∧ LauAt K H a r ∧ H p = some (.dK (eKV e)) ∧ One e r ∧ ∀ H', Ext H H' → Q (.bl true) H'
abbrev nmOne : List Str := ["_law_value", "_law_one", "_law_low", "_law_high", "_law_due", "_law_some", "_law_spot"]
theorem scOne : FnScope nmOne ["_law_value", "_law_one"] (defScope (top 41)) := C8.fnScope_by (by decide +kernel)
theorem kbCo {fd : FuncData} {f : Addr} (F : FunD K "coefficient" "Laurent.coefficient" (defArgs (inL 19)) (defBody (inL 19)) (defScope (inL 19)) [] [] f fd) : KBn K fd ["self", "power"] 1 ["power"] (fun us ws => us ++ ws) (fun vs zs => vs ++ zs) :=
  kbN F 1 ["power"] (fun us ws => us ++ ws) (fun r1 r2 => r1.append r2) (fun _ _ _ _ _ _ us ws hl hw => match us, hl, ws, hw with | [_], _, [_], _ => rfl)
def rReprB : List V → Hp → VK → Prop := fun xs H Q => ∃ b : Bool, xs = [.bl b] ∧ Q (.str (if b then "True" else "False")) H
theorem cal_one (T : Txt K mg) : CalG P w K mg base 4 "_law_is_one" (spOne K) := by
  obtain ⟨fdc, Fc⟩ := funCo T
  refine calG (k := 3) (T.fn 29 rfl rfl) scOne (fun _ _ _ _ _ _ us hl => match us, hl with | [_, _], _ => rfl) (fun vs H Q E h => by obtain ⟨_, _, _, _, rfl, _⟩ := h; rfl) (fun f cdv A outer s H vs Q hr hg h => ?_)
  refine ⟨_, pss_cons (ps_if (PW.pt (pw_or (pt_not (pt_val (pe_callB call_isi (by rfl) (T.free 7) (by decide +kernel) (pa_cons (pv 0) (pa_cons (pe_glob (v := .ref (LC K)) (by rfl) T.gC rfl) pa_nil)))))
        (pw_or1 (pt_cmpR op_ne (pe_pr T 5 rfl (fn_text T) hr (by decide) (pv 0) rfl) (C8.pe_c (cal_wri T) hr (by decide) (by rfl) (pa_cons (pv 1) pa_nil)) (nomark _))))) (pss_one (ps_ret pe_bl)) pss_nil)
    (pss_cons (ps_asg (pe_ifExp (pt_cmpR (op_neDD (Nat.lt_of_succ_lt (hu_of hr))) (pv 1) pe_dnewK (nomark _))
        (pe_tup (pa_cons (pe_callB (cr_min rfl) (by rfl) (T.free 11) (by decide +kernel) (pa_cons (pe_callTy (call_list_dK rfl) (by rfl) (T.free 9) (by decide +kernel) (pa_cons (pv 1) pa_nil)) pa_nil))
          (pa_cons (pe_callB (cr_max rfl) (by rfl) (T.free 10) (by decide +kernel) (pa_cons (pe_callTy (call_list_dK rfl) (by rfl) (T.free 9) (by decide +kernel) (pa_cons (pv 1) pa_nil)) pa_nil)) pa_nil)))
        (pe_tup (pa_cons pe_int (pa_cons pe_int pa_nil)))) (pg_tup rfl (pgs_cons (pg_name (i := 2) scOne.nd rfl (Or.inl rfl)) (pgs_cons (pg_name (i := 3) scOne.nd rfl (Or.inl rfl)) pgs_nil))))
    (pss_cons (ps_set (i := 4) scOne.nd rfl (Or.inl rfl) (pe_lst (pa_cons (pv 2) (pa_cons (pv 3) (pa_cons
        (pe_ifExp (pt_cmpR (op_neDD (Nat.lt_of_succ_lt (hu_of hr))) (pv 1) pe_dnewK (nomark _)) (pe_callTy call_tuple_of (by rfl) (T.free 17) (by decide +kernel) (pa_cons
          (pe_lc (own := [("_law_spot", 6)]) (g := gName 6) (tt := tYes) (te := tDGet2 (tVar 1) (tVar 6) (tC (.int 0))) rfl scOne.nd (pi_range2 (by rfl) (T.free 12) (pa_cons (pv 2) (pa_cons (pe_op op_add (pv 3) pe_int) pa_nil))) (blkOk_by (N := nmOne) (sc := defScope (top 41)) (by decide +kernel))
            (fun _ _ _ _ _ => pg_name (i := 6) scOne.nd rfl (Or.inl rfl)) (fun _ _ _ _ _ => pts_nil) (fun _ _ _ _ _ => pe_dget2 (hu_of hr) (pv 1) (pv 6) pe_int ⟨rfl, rfl, rfl, rfl⟩)) pa_nil)) (pe_tup pa_nil))
        (pa_cons (pe_callB (cr_sum rfl) (by rfl) (T.free 16) (by decide +kernel) (pa_cons (pe_listVals rfl (pv 1) (by rfl) (T.free 9) (by decide +kernel)) pa_nil)) pa_nil))))))
    (pss_cons (ps_if (pt_cmpR op_ne (pe_callB (call_reprD hr hg) (by rfl) (T.free 13) (by decide +kernel) (pa_cons (pe_lst (pa_cons (pe_pr T 0 rfl (fn_low T) hr (by decide) (pv 0) rfl) (pa_cons (pe_pr T 1 rfl (fn_high T) hr (by decide) (pv 0) rfl) (pa_cons (pe_pr T 2 rfl (fn_coefs T) hr (by decide) (pv 0) rfl) (pa_cons (pe_pr T 4 rfl (fn_tot T) hr (by decide) (pv 0) rfl) pa_nil))))) pa_nil))
        (pe_callB (call_reprD hr hg) (by rfl) (T.free 13) (by decide +kernel) (pa_cons (pv 4) pa_nil)) (nomark _)) (pss_one (ps_ret pe_bl)) pss_nil)
    (pss_cons (ps_set (i := 5) scOne.nd rfl (Or.inl rfl) (pe_lst (pa_cons (pe_op op_sub (pv 2) pe_int) (pa_cons (pv 2) (pa_cons (pv 3) (pa_cons (pe_op op_add (pv 3) pe_int) (pa_cons pe_int (pa_cons (pe_op op_pow pe_int pe_int) pa_nil))))))))
    (pss_cons (ps_if (pt_cmpR (op_neD hr.units)
        (pe_lc (own := [("_law_spot", 6)]) (g := gName 6) (tt := tYes) (te := tMeth (LC K) "coefficient" (spCo K) [] E0 (tVar 0) (tCons (tVar 6) tNil)) rfl scOne.nd (pi_list (pv 5)) (blkOk_by (N := nmOne) (sc := defScope (top 41)) (by decide +kernel))
            (fun _ _ _ _ _ => pg_name (i := 6) scOne.nd rfl (Or.inl rfl)) (fun _ _ _ _ _ => pts_nil) (fun _ _ _ _ _ => C8.pe_mt (metL T 12 rfl (fn_co T)) hr (by decide) (pv 0) (pa_cons (pv 6) pa_nil)))
        (pe_lc (own := [("_law_spot", 6)]) (g := gName 6) (tt := tYes) (te := tDGet2 (tVar 1) (tVar 6) (tC (.int 0))) rfl scOne.nd (pi_list (pv 5)) (blkOk_by (N := nmOne) (sc := defScope (top 41)) (by decide +kernel))
            (fun _ _ _ _ _ => pg_name (i := 6) scOne.nd rfl (Or.inl rfl)) (fun _ _ _ _ _ => pts_nil) (fun _ _ _ _ _ => pe_dget2 (hu_of hr) (pv 1) (pv 6) pe_int ⟨rfl, rfl, rfl, rfl⟩)) (nomark _)) (pss_one (ps_ret pe_bl)) pss_nil)
    (pss_one (ps_ret (pe_and (pe_cmpR op_eq (pe_methKw0 (pv 0) T.cls.cl (T.met 12 rfl) (ok_co T Fc) (hr.mono (by decide)) (kbCo Fc) (pk_cons (pv 2) pk_nil)) (pe_dget2 (hu_of hr) (pv 1) (pv 2) pe_int ⟨rfl, rfl, rfl, rfl⟩) (nomark _))
      (pe_one (pe_cmpR op_eq (pe_callB (r := rReprB) call_reprB (by rfl) (T.free 13) (by decide +kernel) (pa_cons (pe_callTy (boolL T hr (by decide)) (by rfl) (T.free 2) (by decide +kernel) (pa_cons (pv 0) pa_nil)) pa_nil))
        (pe_callB (r := rReprB) call_reprB (by rfl) (T.free 13) (by decide +kernel) (pa_cons (pe_cmpR (op_neDD (Nat.lt_of_succ_lt (hu_of hr))) (pv 1) pe_dnewK (nomark _)) pa_nil)) (nomark _))))))))))), ?_⟩
  obtain ⟨a, p, e, r, rfl, hL, hp, ok, Qk⟩ := h
  obtain ⟨nd, nr, hev, tb, len2⟩ := ok
  obtain ⟨dx, q, ha, hq⟩ := id hL
  have emp := empty_of nd nr hev
  have lo0 : r.2 = [] → r.1 = 0 := fun z => by
    rcases nr with ⟨_, h⟩ | ⟨h, _⟩
    · exact h
    · exact absurd z h
  refine ⟨_, rfl, _, _, .ref (LC K), .ref (LC K), true, rfl, .own _, .base (.ins ha T.cls.cl T.cls.ha T.cls.hn T.cls.htk T.cls.hm), T.cls.me, true, rfl, iteN rfl ⟨_, rfl, a, dx, _, rfl, ha, a, r, rfl, hL, tb, fun H1 e1 => ⟨_, rfl, p, e, r, rfl, e1 _ _ hp, nd, hev, tb, fun H2 e2 => ⟨rfl, _, rfl, iteN (by simp) ?_⟩⟩⟩⟩
  have e12 := e1.trans e2
  refine nextI ?_
  -- low, high
  refine seqP (fun σ H' => Ext H H' ∧ σ = [some (.ref a), some (.ref p), some (.int r.1), some (.int (if r.2 = [] then 0 else r.1 + r.2.length - 1)), none, none, none]) ?_ (fun hd => ⟨_, rfl, fun d0 hd0 => ⟨p, d0, e, [], rfl, rfl, Ext.upd hd0 _ _ (e12 _ _ hp), upd_same, _, rfl, ?_⟩⟩)
  rotate_left
  · have e3 : Ext H (upd H2 d0 (.dK [])) := e12.upd' hd0
    rw [dEq_nil]
    by_cases he : e = []
    · have hr2 := emp.mp he
      refine iteN (by simp [he]) ⟨by show 2 ≤ sizeLine; decide, fun t ht => ⟨t, _, rfl, SqT.of upd_same, rfl, _, _, rfl, _, _, rfl, rfl, hd _ _ ⟨e3.upd' ht, ?_⟩⟩⟩
      rw [if_pos hr2, lo0 hr2]
      rfl
    · refine iteY (by simp [he]) ⟨_, rfl, p, _, rfl, e3 _ _ hp, fun l1 hl1 => ?_⟩
      rw [keys_eKV]
      refine ⟨l1, keys e, rfl, SqL.of upd_same, keys_pos he, fun m1 m1a m1b => ⟨_, rfl, p, _, rfl, (e3.upd' hl1) _ _ hp, fun l2 hl2 => ?_⟩⟩
      rw [keys_eKV]
      refine ⟨l2, keys e, rfl, SqL.of upd_same, keys_pos he, fun m2 m2a m2b => ?_⟩
      refine ⟨by show 2 ≤ sizeLine; decide, fun t ht => ⟨t, _, rfl, SqT.of upd_same, rfl, _, _, rfl, _, _, rfl, rfl, hd _ _ ⟨((e3.upd' hl1).upd' hl2).upd' ht, ?_⟩⟩⟩
      obtain ⟨z1, z2, z3⟩ := ends_of nd nr hev he m1a m1b m2a m2b
      rw [if_neg z1, ← z2, z2, ← z3]
      rfl
  rintro σ H3 ⟨e3, rfl⟩
  generalize hhi : (if r.2 = [] then 0 else r.1 + (r.2.length : Int) - 1) = hi
  have tlo := tb.lo
  -- due
  refine seqP (fun σ H' => Ext H H' ∧ ∃ (D t : Addr), SqL K H' D [.int r.1, .int hi, .ref t, .int r.2.sum] ∧ SqT K H' t (r.2.map V.int) ∧ σ = [some (.ref a), some (.ref p), some (.int r.1), some (.int hi), some (.ref D), none, none]) ?_ (fun hd => ⟨_, rfl, _, rfl, ?_⟩)
  rotate_left
  · show tIf _ _ _ _ _ _
    refine thenP (fun v H' => ∃ t, v = .ref t ∧ Ext H H' ∧ SqT K H' t (r.2.map V.int)) ?_ (fun hd2 => ⟨_, rfl, fun d0 hd0 => ⟨p, d0, e, [], rfl, rfl, Ext.upd hd0 _ _ (e3 _ _ hp), upd_same, _, rfl, ?_⟩⟩)
    · rintro v H4 ⟨t, rfl, e4, ht⟩
      refine ⟨_, rfl, p, _, rfl, e4 _ _ hp, fun l hl => ⟨l, e.map (·.2), rfl, SqL.of ?_, by show 4 ≤ sizeLine; decide, fun D hD => hd _ _ ⟨(e4.upd' hl).upd' hD, D, t, SqL.of ?_, (ht.ext (Ext.upd hl)).ext (Ext.upd hD), rfl⟩⟩⟩
      · rw [upd_same, vals_eKV]
      · rw [upd_same, sum_vals nd hev]
    · have e4 : Ext H (upd H3 d0 (.dK [])) := e3.upd' hd0
      rw [dEq_nil]
      by_cases he : e = []
      · have hr2 := emp.mp he
        refine iteN (by simp [he]) ⟨Nat.zero_le _, fun t ht => hd2 _ _ ⟨t, rfl, e4.upd' ht, ?_⟩⟩
        rw [hr2]
        exact SqT.of upd_same
      · have hr2 : r.2 ≠ [] := fun z => he (emp.mpr z)
        rw [if_neg hr2] at hhi
        have hn : (hi + 1 - r.1).toNat = r.2.length := by omega
        refine iteY (by simp [he]) ⟨_, rfl, _, rfl, _, _, rfl, rfl, r.1, hi + 1, rfl, ⟨by omega, by omega, by omega, by omega⟩, fun D hD => ?_⟩
        rw [hn]
        refine lc_range (lo := r.1) (n := r.2.length) (fun k H' => Ext (upd H3 d0 (.dK [])) H' ∧ H' D = some (.lst ((tab k fun j => (lkp e (r.1 + j)).getD 0).map V.int))) ⟨Ext.upd hD, upd_same⟩ (fun k H' hk pv => ?_) (fun H' pv => ?_)
        · obtain ⟨e5, hDk⟩ := pv
          refine ⟨rfl, ?_⟩
          unfold tYes
          dsimp only
          rw [if_pos rfl]
          refine ⟨_, rfl, p, rfl, isD (e5 _ _ (e4 _ _ hp)), _, rfl, _, dgetE (e5 _ _ (e4 _ _ hp)) _, _, hDk, by rw [len_tab, sizeLine_eq]; omega, extPut e5 hD, ?_⟩
          rw [upd_same, getD_int, tab_succ, List.map_append]
          rfl
        · obtain ⟨e5, hDk⟩ := pv
          refine ⟨D, _, rfl, .inl ⟨SqL.of hDk, fun t ht => hd2 _ _ ⟨t, rfl, (e4.trans e5).upd' ht, ?_⟩⟩⟩
          rw [row_read nd.1 hev]
          exact SqT.of upd_same
  rintro σ H4 ⟨e4, D, t, hD, ht, rfl⟩
  have hib : -100001 ≤ hi ∧ hi ≤ 110000 := by
    rw [← hhi]
    split <;> omega
  have hsum : r.2.sum.natAbs < 2 ^ 620 := by
    have h1 := sum_bd r.2 (2 ^ 600) fun c hc => Nat.le_of_lt (tb.co c hc)
    have h2 : r.2.length * 2 ^ 600 ≤ 2000 * 2 ^ 600 := Nat.mul_le_mul_right _ len2
    have h3 : 2000 * 2 ^ 600 < (2 : Nat) ^ 620 := by decide +kernel
    omega
  obtain ⟨s1, s2, s3, s4⟩ := lauD_ok (lo := r.1) (hi := hi) (tot := r.2.sum) (cs := r.2) (by omega) (by omega) tb.co hsum len2
  -- repr
  refine ⟨_, rfl, a, dx, _, rfl, e4 _ _ ha, a, r, rfl, hL.ext e4, _, rfl, a, dx, _, rfl, e4 _ _ ha, a, r, rfl, hL.ext e4, fun H5 e5 => ⟨_, rfl, a, dx, _, rfl, (e4.trans e5) _ _ ha, a, r, rfl, hL.ext (e4.trans e5), fun t' ht' => ⟨_, rfl, a, dx, _, rfl, (e4.trans e5) _ _ ha, a, r, rfl, hL.ext (e4.trans e5), fun H6 e6 => ⟨by show 4 ≤ sizeLine; decide, fun l hl => ?_⟩⟩⟩⟩
  rw [hhi]
  have e456 : Ext H4 (upd H6 l (.lst [.int r.1, .int hi, .ref t', .int r.2.sum])) := (e5.trans e6).upd' hl
  refine ⟨l, lauD r.1 hi r.2 r.2.sum, rfl, dp_lauD (SqL.of upd_same) ((ht'.ext e6).ext (Ext.upd hl)), s1, s2, s3, s4, _, rfl, D, lauD r.1 hi r.2 r.2.sum, rfl, dp_lauD (hD.ext e456) (ht.ext e456), s1, s2, s3, s4, rfl, _, rfl, iteN (by simp) ?_⟩
  have e7 := e4.trans e456
  generalize upd H6 l (.lst [.int r.1, .int hi, .ref t', .int r.2.sum]) = G at e7
  -- the spots
  refine ⟨_, rfl, _, _, rfl, rfl, _, rfl, _, rfl, _, rfl, _, _, rfl, rfl, _, _, rfl, rfl, ⟨by decide, by decide, by decide⟩, by show 6 ≤ sizeLine; decide, fun S hS => ?_⟩
  have e8 : Ext H (upd G S (.lst ([r.1 - 1, r.1, hi, hi + 1, 0, 10 ^ (20 : Int).toNat].map V.int))) := e7.upd' hS
  have hSq : SqL K (upd G S (.lst ([r.1 - 1, r.1, hi, hi + 1, 0, 10 ^ (20 : Int).toNat].map V.int))) S ([r.1 - 1, r.1, hi, hi + 1, 0, 10 ^ (20 : Int).toNat].map V.int) := SqL.of upd_same
  refine ⟨_, rfl, S, rfl, ⟨_, hSq⟩, lc_ints (xs := [r.1 - 1, r.1, hi, hi + 1, 0, 10 ^ (20 : Int).toNat]) (rat r) hSq (by show 6 ≤ 1000; decide) (fun x H' Q' e9 q' => ⟨_, rfl, a, dx, _, rfl, (e8.trans e9) _ _ ha, lk_no (by decide +kernel), _, rfl, a, x, r, rfl, hL.ext (e8.trans e9), q' H' Ext.rfl'⟩) fun D1 H9 _ e9 hD1 => ?_⟩
  refine ⟨_, rfl, S, rfl, ⟨_, hSq.ext e9⟩, lc_ints (xs := [r.1 - 1, r.1, hi, hi + 1, 0, 10 ^ (20 : Int).toNat]) (fun x => (lkp e x).getD 0) (hSq.ext e9) (by show 6 ≤ 1000; decide) (fun x H' Q' e10 q' => ⟨_, rfl, p, rfl, isD (((e8.trans e9).trans e10) _ _ hp), _, rfl, _, dgetE (((e8.trans e9).trans e10) _ _ hp) _, by rw [getD_int]; exact q' H' Ext.rfl'⟩) fun D2 H10 _ e10 hD2 => ?_⟩
  have e11 := (e8.trans e9).trans e10
  have same : (fun x => (lkp e x).getD 0) = rat r := funext fun x => by rw [lkp_get nd.1, hev]
  rw [same] at hD2
  refine neL (hD1.ext e10) hD2 ⟨_, rfl, iteN (by simp) ?_⟩
  -- the last row
  refine ⟨_, rfl, a, dx, _, rfl, e11 _ _ ha, lk_no (by decide +kernel), _, rfl, rfl, a, r.1, r, rfl, hL.ext e11, _, rfl, p, rfl, isD (e11 _ _ hp), _, rfl, _, dgetE (e11 _ _ hp) _, ?_, _, rfl, iteY ?_ ?_⟩
  · rw [getD_int]; rfl
  · rw [getD_int, lkp_get nd.1, hev]
    simp
  · refine ⟨_, rfl, a, dx, _, rfl, e11 _ _ ha, a, r, rfl, hL.ext e11, _, rfl, _, rfl, _, rfl, fun d0 hd0 => ⟨p, d0, e, [], rfl, rfl, Ext.upd hd0 _ _ (e11 _ _ hp), upd_same, _, rfl, rfl, ?_⟩⟩
    have fin := Qk _ (e11.upd' (o := .dK []) hd0)
    have eb : (!decide (r.2 = [])) = Bool.not (dEq e []) := by
      rw [dEq_nil]
      by_cases z : e = []
      · simp [z, emp.mp z]
      · have : r.2 ≠ [] := fun q => z (emp.mpr q)
        simp [z, this]
    rw [← eb]
    simp only [decide_true]
    exact fin
end
end Lau
end
section
/-! ## part M4 -/
set_option maxHeartbeats 4000000
namespace Lau
open PySem PySem.Spec PyProof.Rows L2
/-! bounds of the law's functions -/
abbrev B0 : Int := 4611686018427387904
theorem ev_bd {e : Ent} (n : KN e) {N M : Int} (hM : 0 ≤ M) (hk : ∀ p ∈ e, -N ≤ p.1 ∧ p.1 ≤ N) (hv : ∀ p ∈ e, -M ≤ p.2 ∧ p.2 ≤ M) : Bd (ev e) N M := by
  have mem : ∀ k, k ∈ keys e → ∃ p ∈ e, p.1 = k ∧ ev e k = p.2 := fun k h => by
    obtain ⟨p, hp, rfl⟩ := List.mem_map.mp h
    exact ⟨p, hp, rfl, ev_mem n hp⟩
  refine ⟨fun k h => ?_, fun k => ?_⟩
  · by_cases q : k ∈ keys e
    · obtain ⟨p, hp, rfl, _⟩ := mem k q
      exact hk p hp
    · exact absurd (ev_none q) h
  · by_cases q : k ∈ keys e
    · obtain ⟨p, hp, rfl, e1⟩ := mem k q
      rw [e1]
      exact hv p hp
    · rw [ev_none q]
      omega
theorem Poly.bd {e : Ent} (h : Poly e) : Bd (ev e) 10 B0 := ev_bd h.nd.1 (by decide) h.ks fun p hp => by have := h.vs p hp; unfold B0; omega
theorem Bd.add {f g : Int → Int} {N M M' : Int} (a : Bd f N M) (b : Bd g N M') : Bd (fun k => f k + g k) N (M + M') := by
  refine ⟨fun k h => ?_, fun k => ?_⟩
  · by_cases z : f k = 0
    · exact b.1 k (fun q => h (by show f k + g k = 0; omega))
    · exact a.1 k z
  · have h1 := a.2 k
    have h2 := b.2 k
    show -(M + M') ≤ f k + g k ∧ f k + g k ≤ M + M'
    omega
theorem Bd.neg {f : Int → Int} {N M : Int} (a : Bd f N M) : Bd (fun k => -f k) N M := by
  refine ⟨fun k h => a.1 k (fun q => h (by show -f k = 0; omega)), fun k => ?_⟩
  have h1 := a.2 k
  show -M ≤ -f k ∧ -f k ≤ M
  omega
theorem Bd.sub {f g : Int → Int} {N M M' : Int} (a : Bd f N M) (b : Bd g N M') : Bd (fun k => f k - g k) N (M + M') := (a.add b.neg).congr fun k => by show f k - g k = f k + -g k; omega
theorem Bd.rev {f : Int → Int} {N M : Int} (a : Bd f N M) : Bd (fun k => f (-k)) N M := ⟨fun k h => by have := a.1 (-k) h; omega, fun k => a.2 (-k)⟩
theorem Bd.conv {f : Ent} {g : Int → Int} {N N' C M : Int} {l : Nat} (hC : 0 ≤ C) (hl : f.length ≤ l) (h1 : ∀ p ∈ f, -N ≤ p.1 ∧ p.1 ≤ N) (h2 : ∀ p ∈ f, -C ≤ p.2 ∧ p.2 ≤ C) (b : Bd g N' M) : Bd (cv f g) (N + N') (l * (C * M)) := by
  refine ⟨fun k h => cv_supp (fun p hp _ => h1 p hp) b.1 k h, fun k => ?_⟩
  have h := cv_bd (M := M) h2 b.2 k
  have hm : 0 ≤ C * M := Int.mul_nonneg hC b.pos
  have : (f.length : Int) * (C * M) ≤ l * (C * M) := Int.mul_le_mul_of_nonneg_right (by omega) hm
  omega
/-- a laurent and a dict with bounded values -/
theorem mkOne {g : Ent} {r : Raw} {F : Int → Int} {N M : Int} (nd : ND g) (nr : Nrm r) (hr : ∀ k, rat r k = F k) (hg : ∀ k, ev g k = F k) (b : Bd F N M) (h0 : 0 ≤ N) (hN : N ≤ 900) (hM : M < 2 ^ 600) : One g r := by
  have br : Bd (rat r) N M := b.congr hr
  obtain ⟨a1, a2, a3, a4, a5⟩ := nrm_bd nr h0 br
  refine ⟨nd, nr, fun k => by rw [hg, hr], ⟨⟨by omega, by omega⟩, by omega, ?_, fun c hc => ?_⟩, by omega⟩
  · have h := len_nz (rowE r.1 r.2)
    rw [row_len] at h
    unfold nzL
    omega
  · have h1 := a5 c hc
    have h2 : ((2 : Nat) ^ 600 : Nat) = (((2 : Int) ^ 600).toNat) := by decide +kernel
    have h3 : c.natAbs ≤ M.toNat := by omega
    have h4 : M.toNat < ((2 : Int) ^ 600).toNat := by
      have hp : (0 : Int) < 2 ^ 600 := by decide +kernel
      generalize ((2 : Int) ^ 600) = Z at hM hp
      omega
    rw [h2]
    exact Nat.lt_of_le_of_lt h3 h4
/-- the row of a poly -/
theorem Poly.row {e : Ent} {r : Raw} (h : Poly e) (nr : Nrm r) (hr : ∀ k, rat r k = ev e k) : Big r ∧ Sm64 r ∧ r.2.length ≤ 21 ∧ -10 ≤ r.1 ∧ r.1 ≤ 10 := by
  have b : Bd (rat r) 10 B0 := h.bd.congr hr
  obtain ⟨a1, a2, a3, a4, a5⟩ := nrm_bd nr (by decide) b
  refine ⟨⟨by omega, by omega, by omega⟩, fun c hc => ?_, by omega, by omega, by omega⟩
  have := a5 c hc
  unfold B0 at this
  omega
/-- a product of rows is that of the dicts -/
theorem conv_rows {rx : Raw} {e f : Ent} {g : Int → Int} (hx : ∀ k, rat rx k = ev e k) (hg : ∀ k, g k = ev f k) (k : Int) : cv (rowE rx.1 rx.2) g k = cv f (ev e) k := by
  rw [cv_congr hg, cv_symm, cv_congr fun k => (ev_row rx.2 rx.1 k).trans (hx k)]
theorem eq_dicts {e f : Ent} {rx ry : Raw} (ne : ND e) (nf : ND f) (nx : Nrm rx) (ny : Nrm ry) (hx : ∀ k, rat rx k = ev e k) (hy : ∀ k, rat ry k = ev f k) : decide (rx = ry) = dEq e f := by
  by_cases h : rx = ry
  · rw [decide_eq_true h, ((dEq_iff ne nf).mpr fun k => by rw [← hx, ← hy, h])]
  · rw [decide_eq_false h]
    cases q : dEq e f with
    | false => rfl
    | true =>
      have := (dEq_iff ne nf).mp q
      exact absurd (nrm_unique nx ny fun k => by rw [hx, hy, this]) h
/-! what is told, what is due -/
section
variable {K : PySem.W.Frag}
def Tol (K : PySem.W.Frag) (H : Hp) (F : Int → Int) (a : Addr) : Prop := ∃ r, LauAt K H a r ∧ Nrm r ∧ ∀ k, rat r k = F k
def Due (H : Hp) (F : Int → Int) (d : Addr) : Prop := ∃ g, H d = some (.dK (eKV g)) ∧ ND g ∧ ∀ k, ev g k = F k
theorem Tol.ext {H H' : Hp} {F : Int → Int} {a : Addr} (h : Tol K H F a) (e : Ext H H') : Tol K H' F a := by
  obtain ⟨r, h1, h2⟩ := h
  exact ⟨r, h1.ext e, h2⟩
theorem Tol.as {H : Hp} {F G : Int → Int} {a : Addr} (h : Tol K H F a) (e : ∀ k, F k = G k) : Tol K H G a := by
  obtain ⟨r, h1, h2, h3⟩ := h
  exact ⟨r, h1, h2, fun k => by rw [h3, e]⟩
theorem Due.ext {H H' : Hp} {F : Int → Int} {a : Addr} (h : Due H F a) (e : Ext H H') : Due H' F a := by
  obtain ⟨r, h1, h2⟩ := h
  exact ⟨r, e _ _ h1, h2⟩
theorem Due.as {H : Hp} {F G : Int → Int} {a : Addr} (h : Due H F a) (e : ∀ k, F k = G k) : Due H G a := by
  obtain ⟨r, h1, h2, h3⟩ := h
  exact ⟨r, h1, h2, fun k => by rw [h3, e]⟩
structure PL (K : PySem.W.Frag) (H : Hp) (a : Addr) (r : Raw) : Prop where
  lau : LauAt K H a r
  nrm : Nrm r
  big : Big r
  sm : Sm64 r
theorem PL.ext {H H' : Hp} {a : Addr} {r : Raw} (h : PL K H a r) (e : Ext H H') : PL K H' a r := ⟨h.lau.ext e, h.nrm, h.big, h.sm⟩
theorem bin_ok {F : Raw → (Int → Int) → Int → Int} {H : Hp} {xa : Addr} {rx : Raw} {y : V} {g : Int → Int} {Q : VK} (hx : PL K H xa rx) (hy : Opd K H y g) (q : ∀ t H', Ext H H' → Tol K H' (F rx g) t → Q (.ref t) H') : rBin (LC K) (spB K F) (.ref xa) y H Q := by
  obtain ⟨dx, p, h1, _⟩ := id hx.lau
  refine ⟨xa, dx, _, rfl, h1, ?_, xa, y, rx, g, rfl, hx.lau, hx.nrm, hx.big, hx.sm, hy, fun r t H' e n h hl => q t H' e ⟨r, hl, n, h⟩⟩
  rcases hy with ⟨b, r, rfl, ⟨dy, p', h2, _⟩, _⟩ | ⟨n, rfl, _⟩
  · exact .inl ⟨b, dy, _, rfl, h2⟩
  · exact .inr ⟨n, rfl⟩
theorem ref_ok {F : Raw → (Int → Int) → Int → Int} {H : Hp} {xa : Addr} {rx : Raw} {n : Int} {Q : VK} (hx : PL K H xa rx) (h1 : -(2 ^ 64) < n) (h2 : n < 2 ^ 64) (q : ∀ t H', Ext H H' → Tol K H' (F rx (rat (0, [n]))) t → Q (.ref t) H') : rRef (LC K) (spB K F) (.int n) (.ref xa) H Q := by
  obtain ⟨dx, p, h3, _⟩ := id hx.lau
  exact ⟨n, xa, dx, _, rfl, rfl, h3, xa, .int n, rx, _, rfl, hx.lau, hx.nrm, hx.big, hx.sm, .inr ⟨n, rfl, h1, h2, rfl⟩, fun r t H' e n h hl => q t H' e ⟨r, hl, n, h⟩⟩
end
end Lau
end
section
/-! ## part L8 -/
set_option maxHeartbeats 4000000
namespace Lau
open PySem PySem.Spec PyProof.Rows L2
/-- the whole number as a dict -/
structure WD (wd : Ent) (n : Int) : Prop where
  nd : ND wd
  ev : ∀ k, ev wd k = rat (0, [n]) k
  len : wd.length ≤ 1
  mem : ∀ p ∈ wd, p.1 = 0 ∧ p.2 = n
theorem wd_one {n : Int} (h : n ≠ 0) : WD [(0, n)] n := by
  refine ⟨⟨by unfold KN keys; simp, fun p hp => by rw [List.mem_singleton.mp hp]; exact h⟩, fun k => ?_, Nat.le_refl _, fun p hp => by rw [List.mem_singleton.mp hp]; exact ⟨rfl, rfl⟩⟩
  rw [rat_one]
  simp only [ev]
  by_cases z : k = 0
  · rw [if_pos z.symm, if_pos z]; omega
  · rw [if_neg (fun q => z q.symm), if_neg z]; rfl
theorem wd_nil : WD [] 0 := ⟨⟨List.nodup_nil, fun _ h => nomatch h⟩, fun k => by rw [rat_one]; simp [ev], Nat.zero_le _, fun _ h => nomatch h⟩
/-- the law's functions, in their order -/
def FsL (e f wd : Ent) : List (Int → Int) := [fun k => ev e k + ev f k, fun k => ev e k - ev f k, cv f (ev e), fun k => -ev e k] ++ [fun k => ev e k + ev wd k, fun k => ev e k + ev wd k, fun k => ev e k - ev wd k, fun k => ev wd k - ev e k] ++ [cv wd (ev e), cv wd (ev e), fun k => ev e (-k)]
theorem WD.bd {wd : Ent} {n : Int} (h : WD wd n) (h1 : -B0 ≤ n) (h2 : n ≤ B0) : Bd (Lau.ev wd) 10 B0 := ev_bd h.nd.1 (by decide) (fun p hp => by have := (h.mem p hp).1; omega) fun p hp => by rw [(h.mem p hp).2]; exact ⟨h1, h2⟩
theorem fs_bd {e f wd : Ent} {n : Int} (pe : Poly e) (pf : Poly f) (w : WD wd n) (h1 : -B0 ≤ n) (h2 : n ≤ B0) : ∀ F ∈ FsL e f wd, ∃ N M : Int, Bd F N M ∧ 0 ≤ N ∧ N ≤ 900 ∧ M < 2 ^ 600 := by
  have be := pe.bd
  have bf := pf.bd
  have bw := w.bd h1 h2
  have c1 : Bd (cv f (ev e)) (10 + 10) ((4 : Nat) * (B0 * B0)) := Bd.conv (by decide) pf.len pf.ks (fun p hp => by have := pf.vs p hp; unfold B0; omega) be
  have c2 : Bd (cv wd (ev e)) (10 + 10) ((1 : Nat) * (B0 * B0)) := Bd.conv (by decide) w.len (fun p hp => by have := (w.mem p hp).1; omega) (fun p hp => by rw [(w.mem p hp).2]; exact ⟨h1, h2⟩) be
  intro F hF
  simp only [FsL, List.cons_append, List.nil_append, List.mem_cons, List.not_mem_nil, or_false] at hF
  rcases hF with rfl | rfl | rfl | rfl | rfl | rfl | rfl | rfl | rfl | rfl | rfl
  · exact ⟨_, _, be.add bf, by decide, by decide, by decide +kernel⟩
  · exact ⟨_, _, be.sub bf, by decide, by decide, by decide +kernel⟩
  · exact ⟨_, _, c1, by decide, by decide, by decide +kernel⟩
  · exact ⟨_, _, be.neg, by decide, by decide, by decide +kernel⟩
  · exact ⟨_, _, be.add bw, by decide, by decide, by decide +kernel⟩
  · exact ⟨_, _, be.add bw, by decide, by decide, by decide +kernel⟩
  · exact ⟨_, _, be.sub bw, by decide, by decide, by decide +kernel⟩
  · exact ⟨_, _, bw.sub be, by decide, by decide, by decide +kernel⟩
  · exact ⟨_, _, c2, by decide, by decide, by decide +kernel⟩
  · exact ⟨_, _, c2, by decide, by decide, by decide +kernel⟩
  · exact ⟨_, _, be.rev, by decide, by decide, by decide +kernel⟩
theorem paired_append {α β : Type} {F : α → β → Prop} : ∀ {xs : List α} {ys : List β} {us : List α} {vs : List β}, Paired F xs ys → Paired F us vs → Paired F (xs ++ us) (ys ++ vs)
  | _, _, _, _, .nil, h => h
  | _, _, _, _, .cons a b, h => .cons a (paired_append b h)
def bolD (a b : Bool) : PyData := .list [.bool a, .bool b, .bool false, .bool false]
theorem bolD_ok : ∀ a b : Bool, (bolD a b).showable = true ∧ (bolD a b).hasDict = false ∧ (bolD a b).depth ≤ 20 ∧ (bolD a b).shown.length ≤ sizeLine := by decide +kernel
theorem dp_bolD {K : PySem.W.Frag} {H : Hp} {l : Addr} {a b : Bool} (h : SqL K H l [.bl a, .bl b, .bl false, .bl false]) : Dp K H (.ref l) (bolD a b) := .lst h (.cons (.bl a) (.cons (.bl b) (.cons (.bl false) (.cons (.bl false) .nil))))
section
variable {P : Program} {w : World} {K : PySem.W.Frag} {mg : Str → Option Value} {base : Heap}
/-- _law_signs_right -/
def spSig : Sp := fun vs H Q _ => ∃ (p q : Addr) (n : Int) (e f : Ent), vs = [.ref p, .ref q, .int n] ∧ H p = some (.dK (eKV e)) ∧ H q = some (.dK (eKV f)) ∧ Poly e ∧ Poly f ∧ -B0 ≤ n ∧ n ≤ B0 ∧ ∀ H', Ext H H' → Q (.bl true) H'
abbrev nmSig : List Str := ["_law_one", "_law_two", "_law_number", "_law_x", "_law_y", "_law_whole", "_law_told", "_law_due", "_law_pair"]
theorem scSig : FnScope nmSig ["_law_one", "_law_two", "_law_number"] (defScope (top 43)) := C8.fnScope_by (by decide +kernel)
def teOne (K : PySem.W.Frag) : TE := tCall (spOne K) [] E0 (tCons (tOp (rIxT K) (tVar 8) (tC (.int 0))) (tCons (tOp (rIxT K) (tVar 8) (tC (.int 1))) tNil))
theorem cal_sig (T : Txt K mg) : CalG P w K mg base 9 "_law_signs_right" spSig := by
  refine calG (k := 8) (T.fn 31 rfl rfl) scSig (fun _ _ _ _ _ _ us hl => match us, hl with | [_, _, _], _ => rfl) (fun vs H Q E h => by obtain ⟨_, _, _, _, _, rfl, _⟩ := h; rfl) (fun f cdv A outer s H vs Q hr hg h => ?_)
  refine ⟨_, pss_cons (ps_par3 (i := 3) (j := 4) (l := 5) rfl scSig.nd rfl rfl rfl (by decide) (by decide) (by decide) rfl rfl rfl
      (pa_cons (C8.pe_c (cal_lla T) hr (by decide) (by rfl) (pa_cons (pv 0) pa_nil)) (pa_cons (C8.pe_c (cal_lla T) hr (by decide) (by rfl) (pa_cons (pv 1) pa_nil))
        (pa_cons (pe_ifExp (pt_cmpR op_ne (pv 2) pe_int (nomark _)) (pe_disp (pps_cons pe_int (pv 2) pps_nil) rfl rfl (by simp) (by decide)) pe_dnewK) pa_nil))) (by rfl))
    (pss_cons (ps_set (i := 6) scSig.nd rfl (Or.inl rfl) (pe_lst (pa_cons (pe_op (addL T hr (by decide)) (pv 3) (pv 4)) (pa_cons (pe_op (subL T hr (by decide)) (pv 3) (pv 4)) (pa_cons (pe_op (mulL T hr (by decide)) (pv 3) (pv 4)) (pa_cons (pe_un (negL T hr (by decide)) (pv 3))
        (pa_cons (pe_op (addL T hr (by decide)) (pv 3) (pv 2)) (pa_cons (pe_op (raddL T hr (by decide)) (pv 2) (pv 3)) (pa_cons (pe_op (subL T hr (by decide)) (pv 3) (pv 2)) (pa_cons (pe_op (rsubL T hr (by decide)) (pv 2) (pv 3))
        (pa_cons (pe_op (mulL T hr (by decide)) (pv 3) (pv 2)) (pa_cons (pe_op (rmulL T hr (by decide)) (pv 2) (pv 3)) (pa_cons (pe_pr T 3 rfl (fn_bar T) hr (by decide) (pv 3) rfl) pa_nil)))))))))))))
    (pss_cons (ps_set (i := 7) scSig.nd rfl (Or.inl rfl) (pe_lst (pa_cons (C8.pe_c (cal_add T) hr (by decide) (by rfl) (pa_cons (pv 0) (pa_cons (pv 1) (pa_cons pe_int (pa_cons pe_int pa_nil))))) (pa_cons (C8.pe_c (cal_add T) hr (by decide) (by rfl) (pa_cons (pv 0) (pa_cons (pv 1) (pa_cons (pe_un un_neg pe_int) (pa_cons pe_int pa_nil)))))
        (pa_cons (C8.pe_c (cal_mul T) hr (by decide) (by rfl) (pa_cons (pv 0) (pa_cons (pv 1) pa_nil))) (pa_cons (C8.pe_c (cal_add T) hr (by decide) (by rfl) (pa_cons pe_dnewK (pa_cons (pv 0) (pa_cons (pe_un un_neg pe_int) (pa_cons pe_int pa_nil))))) pa_nil))))))
    (pss_cons (ps_set (i := 7) scSig.nd rfl (Or.inl rfl) (pe_op op_cat (pe_op op_cat (pv 7) (pe_op op_rep (pe_lst (pa_cons (C8.pe_c (cal_add T) hr (by decide) (by rfl) (pa_cons (pv 0) (pa_cons (pv 5) (pa_cons pe_int (pa_cons pe_int pa_nil))))) pa_nil)) pe_int))
        (pe_lst (pa_cons (C8.pe_c (cal_add T) hr (by decide) (by rfl) (pa_cons (pv 0) (pa_cons (pv 5) (pa_cons (pe_un un_neg pe_int) (pa_cons pe_int pa_nil))))) (pa_cons (C8.pe_c (cal_add T) hr (by decide) (by rfl) (pa_cons (pv 5) (pa_cons (pv 0) (pa_cons (pe_un un_neg pe_int) (pa_cons pe_int pa_nil))))) pa_nil)))))
    (pss_cons (ps_set (i := 7) scSig.nd rfl (Or.inl rfl) (pe_op op_cat (pe_op op_cat (pv 7) (pe_op op_rep (pe_lst (pa_cons (C8.pe_c (cal_mul T) hr (by decide) (by rfl) (pa_cons (pv 0) (pa_cons (pv 5) pa_nil))) pa_nil)) pe_int))
        (pe_lst (pa_cons (C8.pe_c (cal_opp T) hr (by decide) (by rfl) (pa_cons (pv 0) pa_nil)) pa_nil))))
    (pss_cons (ps_if (pt_not (pt_val (pe_callB (cr_all rfl) (by rfl) (T.free 1) (by decide +kernel) (pa_cons
        (pe_lc (own := [("_law_pair", 8)]) (g := gName 8) (tt := tYes) (te := teOne K) rfl scSig.nd (pi_zipN (by rfl) (T.free 18) (pa_cons (pv 6) (pa_cons (pv 7) pa_nil))) (blkOk_by (N := nmSig) (sc := defScope (top 43)) (by decide +kernel))
          (fun _ _ _ _ _ => pg_name (i := 8) scSig.nd rfl (Or.inl rfl)) (fun _ _ _ _ _ => pts_nil) (fun _ _ _ _ _ => pe_g (cal_one T) hr (by decide) hg (by rfl) (pa_cons (pe_ix (r := rIxT K) ix_tup (pv 8) pe_int (fun _ _ => rfl)) (pa_cons (pe_ix (r := rIxT K) ix_tup (pv 8) pe_int (fun _ _ => rfl)) pa_nil)))) pa_nil)))) (pss_one (ps_ret pe_bl)) pss_nil)
    (pss_one (ps_ret (pe_cmpR op_eq (pe_callB (call_reprD hr hg) (by rfl) (T.free 13) (by decide +kernel) (pa_cons (pe_lst (pa_cons (pe_cmpR (eqL T hr (by decide)) (pv 3) (pv 4) (nomark _)) (pa_cons (pe_cmpR (neL' T hr (by decide)) (pv 3) (pv 4) (nomark _)) (pa_cons (pe_cmpR (eqL T hr (by decide)) (pv 3) (pv 2) (nomark _)) (pa_cons (pe_cmpR (eqL T hr (by decide)) (pv 3) (pe_pr T 5 rfl (fn_text T) hr (by decide) (pv 3) rfl) (nomark _)) pa_nil))))) pa_nil))
      (pe_callB (call_reprD hr hg) (by rfl) (T.free 13) (by decide +kernel) (pa_cons (pe_lst (pa_cons (pe_cmpR (op_eqDD (Nat.lt_of_succ_lt (hu_of hr))) (pv 0) (pv 1) (nomark _)) (pa_cons (pe_cmpR (op_neDD (Nat.lt_of_succ_lt (hu_of hr))) (pv 0) (pv 1) (nomark _)) (pa_cons pe_bl (pa_cons pe_bl pa_nil))))) pa_nil)) (nomark _))))))))), ?_⟩
  obtain ⟨p, q, n, e, f, rfl, hp, hq, pe, pf, n1, n2, Qk⟩ := h
  have ke : ∀ y ∈ e, -100 ≤ y.1 ∧ y.1 ≤ 100 := fun y hy => by have := pe.ks y hy; omega
  have kf : ∀ y ∈ f, -100 ≤ y.1 ∧ y.1 ≤ 100 := fun y hy => by have := pf.ks y hy; omega
  have nb1 : -(2 ^ 64) < n := by unfold B0 at n1; omega
  have nb2 : n < 2 ^ 64 := by unfold B0 at n2; omega
  have le := pe.len
  have lf := pf.len
  refine seqP (fun σ H' => Ext H H' ∧ ∃ (xa ya d : Addr) (rx ry : Raw) (wd : Ent), PL K H' xa rx ∧ PL K H' ya ry ∧ (∀ k, rat rx k = ev e k) ∧ (∀ k, rat ry k = ev f k) ∧ H' d = some (.dK (eKV wd)) ∧ WD wd n ∧
    σ = [some (.ref p), some (.ref q), some (.int n), some (.ref xa), some (.ref ya), some (.ref d), none, none, none]) ?_ (fun hd => ⟨_, rfl, p, e, rfl, hp, pe.nd, ke, fun rx xa H1 e1 nx hx lx => ⟨_, rfl, q, f, rfl, e1 _ _ hq, pf.nd, kf, fun ry ya H2 e2 ny hy ly => ⟨_, rfl, rfl, _, rfl, ?_⟩⟩⟩)
  rotate_left
  · obtain ⟨x1, x2, _⟩ := pe.row nx hx
    obtain ⟨y1, y2, _⟩ := pf.row ny hy
    have PX : PL K H2 xa rx := ⟨lx.ext e2, nx, x1, x2⟩
    have PY : PL K H2 ya ry := ⟨ly, ny, y1, y2⟩
    have e12 := e1.trans e2
    by_cases hn : n = 0
    · refine iteN (by simp [hn]) fun d hdn => ⟨_, _, _, rfl, hd _ _ ⟨e12.upd' hdn, xa, ya, d, rx, ry, [], PX.ext (Ext.upd hdn), PY.ext (Ext.upd hdn), hx, hy, upd_same, by rw [hn]; exact wd_nil, rfl⟩⟩
    · refine iteY (by simp [hn]) fun d hdn => ⟨_, rfl, upd_same, [(Sum.inl 0, .int n)], rfl, by show 1 ≤ 15; decide, _, _, _, rfl, hd _ _ ?_⟩
      have e3 : Ext H2 (upd (upd H2 d (.dK [])) d (.dK (mergeK [] [(Sum.inl 0, V.int n)]))) := extPut (Ext.upd hdn) hdn
      exact ⟨e12.trans e3, xa, ya, d, rx, ry, [(0, n)], PX.ext e3, PY.ext e3, hx, hy, upd_same, wd_one hn, rfl⟩
  rintro σ G ⟨eG, xa, ya, d, rx, ry, wd, PX, PY, hx, hy, hw, ww, rfl⟩
  obtain ⟨dxx, qx, hxx, _⟩ := id PX.lau
  have oY : Opd K G (.ref ya) (rat ry) := .inl ⟨ya, ry, rfl, PY.lau, PY.nrm, PY.big, PY.sm, rfl⟩
  have oN : Opd K G (.int n) (rat (0, [n])) := .inr ⟨n, rfl, nb1, nb2, rfl⟩
  have hnw : ∀ k, rat (0, [n]) k = ev wd k := fun k => (ww.ev k).symm
  -- told
  refine seqP (fun σ H' => Ext G H' ∧ ∃ (L : Addr) (ts : List Addr), SqL K H' L (ts.map V.ref) ∧ Paired (Tol K H') (FsL e f wd) ts ∧
    σ = [some (.ref p), some (.ref q), some (.int n), some (.ref xa), some (.ref ya), some (.ref d), some (.ref L), none, none]) ?_ (fun hd => ⟨_, rfl, _, rfl, bin_ok PX oY fun t1 H1 c1 T1 => ?_⟩)
  rotate_left
  · refine ⟨_, rfl, _, rfl, bin_ok (PX.ext c1) (oY.ext c1) fun t2 H2 u2 T2 => ?_⟩
    have c2 := c1.trans u2
    refine ⟨_, rfl, _, rfl, bin_ok (PX.ext c2) (oY.ext c2) fun t3 H3 u3 T3 => ?_⟩
    have c3 := c2.trans u3
    refine ⟨_, rfl, xa, dxx, _, rfl, c3 _ _ hxx, xa, rx, rfl, PX.lau.ext c3, PX.big.2.2, fun t4 H4 u4 l4 => ?_⟩
    have c4 := c3.trans u4
    have T4 : Tol K H4 (fun k => -ev e k) t4 := ⟨_, l4, nrm_neg PX.nrm, fun k => by rw [rat_neg, hx]⟩
    refine ⟨_, rfl, _, rfl, bin_ok (PX.ext c4) (oN.ext c4) fun t5 H5 u5 T5 => ?_⟩
    have c5 := c4.trans u5
    refine ⟨_, rfl, _, rfl, ref_ok (PX.ext c5) nb1 nb2 fun t6 H6 u6 T6 => ?_⟩
    have c6 := c5.trans u6
    refine ⟨_, rfl, _, rfl, bin_ok (PX.ext c6) (oN.ext c6) fun t7 H7 u7 T7 => ?_⟩
    have c7 := c6.trans u7
    refine ⟨_, rfl, _, rfl, ref_ok (PX.ext c7) nb1 nb2 fun t8 H8 u8 T8 => ?_⟩
    have c8 := c7.trans u8
    refine ⟨_, rfl, _, rfl, bin_ok (PX.ext c8) (oN.ext c8) fun t9 H9 u9 T9 => ?_⟩
    have c9 := c8.trans u9
    refine ⟨_, rfl, _, rfl, ref_ok (PX.ext c9) nb1 nb2 fun t10 H10 u10 T10 => ?_⟩
    have c10 := c9.trans u10
    refine ⟨_, rfl, xa, dxx, _, rfl, c10 _ _ hxx, xa, rx, rfl, PX.lau.ext c10, PX.nrm, fun r11 t11 H11 u11 m11 h11 l11 => ?_⟩
    have T11 : Tol K H11 (fun k => ev e (-k)) t11 := ⟨_, l11, m11, fun k => by rw [h11, hx]⟩
    refine ⟨by show 11 ≤ sizeLine; decide, fun L hL => hd _ _ ⟨(c10.trans u11).upd' hL, L, [t1, t2, t3, t4, t5, t6, t7, t8, t9, t10, t11], SqL.of upd_same, ?_, rfl⟩⟩
    have v11 : Ext H11 (upd H11 L (.lst [.ref t1, .ref t2, .ref t3, .ref t4, .ref t5, .ref t6, .ref t7, .ref t8, .ref t9, .ref t10, .ref t11])) := Ext.upd hL
    have v10 := u11.trans v11
    have v9 := u10.trans v10
    have v8 := u9.trans v9
    have v7 := u8.trans v8
    have v6 := u7.trans v7
    have v5 := u6.trans v6
    have v4 := u5.trans v5
    have v3 := u4.trans v4
    have v2 := u3.trans v3
    have v1 := u2.trans v2
    exact .cons ((T1.ext v1).as fun k => by rw [hx, hy]) (.cons ((T2.ext v2).as fun k => by rw [hx, hy]) (.cons ((T3.ext v3).as fun k => conv_rows hx hy k) (.cons (T4.ext v4)
      (.cons ((T5.ext v5).as fun k => by rw [hx, hnw]) (.cons ((T6.ext v6).as fun k => by rw [hx, hnw]) (.cons ((T7.ext v7).as fun k => by rw [hx, hnw]) (.cons ((T8.ext v8).as fun k => by rw [hx, hnw])
      (.cons ((T9.ext v9).as fun k => conv_rows hx hnw k) (.cons ((T10.ext v10).as fun k => conv_rows hx hnw k) (.cons (T11.ext v11) .nil))))))))))
  rintro σ G2 ⟨cG, L, ts, hL, hT, rfl⟩
  have e2 := eG.trans cG
  have hw2 := cG _ _ hw
  have kb : ∀ x ∈ f, -(2 ^ 64) < x.2 ∧ x.2 < 2 ^ 64 := fun x hx' => by have := pf.vs x hx'; omega
  have kw : ∀ x ∈ wd, -(2 ^ 64) < x.2 ∧ x.2 < 2 ^ 64 := fun x hx' => by rw [(ww.mem x hx').2]; exact ⟨nb1, nb2⟩
  have lw := ww.len
  -- due, the first four
  refine seqP (fun σ H' => Ext G2 H' ∧ ∃ (D : Addr) (ds : List Addr), H' D = some (.lst (ds.map V.ref)) ∧ ds.length = 4 ∧ Paired (Due H') [fun k => ev e k + ev f k, fun k => ev e k - ev f k, cv f (ev e), fun k => -ev e k] ds ∧
    σ = [some (.ref p), some (.ref q), some (.int n), some (.ref xa), some (.ref ya), some (.ref d), some (.ref L), some (.ref D), none]) ?_ (fun hd => ⟨_, rfl, _, rfl, p, q, 1, 0, e, f, rfl, e2 _ _ hp, e2 _ _ hq, pe.nd.1, by decide, by decide, by omega, fun g1 d1 H1 c1 _ a1 b1 v1 _ => ?_⟩)
  rotate_left
  · refine ⟨_, rfl, _, rfl, _, rfl, p, q, -1, 0, e, f, rfl, (e2.trans c1) _ _ hp, (e2.trans c1) _ _ hq, pe.nd.1, by decide, by decide, by omega, fun g2 d2 H2 u2 _ a2 b2 v2 _ => ?_⟩
    have c2 := c1.trans u2
    refine ⟨_, rfl, _, rfl, p, q, e, f, rfl, (e2.trans c2) _ _ hp, (e2.trans c2) _ _ hq, pe.nd.1, kb, by omega, by omega, fun g3 d3 H3 u3 a3 b3 v3 _ => ?_⟩
    have c3 := c2.trans u3
    refine fun d0 hd0 => ⟨_, rfl, _, rfl, d0, p, -1, 0, [], e, rfl, upd_same, (e2.trans (c3.upd' hd0)) _ _ hp, List.nodup_nil, by decide, by decide, by show 0 + e.length ≤ 1000000; omega, fun g4 d4 H4 u4 _ a4 b4 v4 _ => ⟨by show 4 ≤ sizeLine; decide, fun D hD => hd _ _ ?_⟩⟩
    have c4 := (c3.upd' hd0).trans u4
    have w4 : Ext H4 (upd H4 D (.lst [.ref d1, .ref d2, .ref d3, .ref d4])) := Ext.upd hD
    have w3 := ((Ext.upd (o := .dK []) hd0).trans u4).trans w4
    have w2 := u3.trans w3
    have w1 := u2.trans w2
    refine ⟨c4.trans w4, D, [d1, d2, d3, d4], upd_same, rfl, ?_, rfl⟩
    have D1 : Due H1 (fun k => ev e k + ev f k) d1 := ⟨g1, a1, b1, fun k => by rw [v1, Int.sub_zero, Int.one_mul]⟩
    have D2 : Due H2 (fun k => ev e k - ev f k) d2 := ⟨g2, a2, b2, fun k => by rw [v2, Int.sub_zero]; show ev e k + -1 * ev f k = ev e k - ev f k; omega⟩
    have D3 : Due H3 (cv f (ev e)) d3 := ⟨g3, a3, b3, v3⟩
    have D4 : Due H4 (fun k => -ev e k) d4 := ⟨g4, a4, b4, fun k => by rw [v4, Int.sub_zero]; show 0 + -1 * ev e k = -ev e k; omega⟩
    exact .cons (D1.ext w1) (.cons (D2.ext w2) (.cons (D3.ext w3) (.cons (D4.ext w4) .nil)))
  rintro σ G3 ⟨cG3, D, ds, hD, hlD, hDue, rfl⟩
  have e3 := e2.trans cG3
  have hw3 := cG3 _ _ hw2
  have l4 : (ds.map V.ref).length = 4 := by rw [List.length_map, hlD]
  -- due, the next four
  refine seqP (fun σ H' => Ext G3 H' ∧ ∃ (D : Addr) (ds : List Addr), H' D = some (.lst (ds.map V.ref)) ∧ ds.length = 8 ∧ Paired (Due H') ([fun k => ev e k + ev f k, fun k => ev e k - ev f k, cv f (ev e), fun k => -ev e k] ++ [fun k => ev e k + ev wd k, fun k => ev e k + ev wd k, fun k => ev e k - ev wd k, fun k => ev wd k - ev e k]) ds ∧
    σ = [some (.ref p), some (.ref q), some (.int n), some (.ref xa), some (.ref ya), some (.ref d), some (.ref L), some (.ref D), none]) ?_ (fun hd => ⟨_, rfl, _, rfl, _, rfl, p, d, 1, 0, e, wd, rfl, e3 _ _ hp, hw3, pe.nd.1, by decide, by decide, by omega, fun g5 d5 H5 c5 _ a5 b5 v5 _ => ⟨by show 1 ≤ sizeLine; decide, fun l1 hl1 => ?_⟩⟩)
  rotate_left
  · refine ⟨l1, 2, [.ref d5], rfl, rfl, upd_same, by decide, by decide, by show 1 * 2 ≤ sizeLine; decide, fun l2 hl2 => ?_⟩
    have c6 := (c5.upd' (o := .lst [.ref d5]) hl1).upd' (o := .lst (List.replicate (2 : Int).toNat [V.ref d5]).flatten) hl2
    refine ⟨D, l2, _, _, rfl, rfl, c6 _ _ hD, upd_same, by rw [l4]; show 4 + 2 ≤ sizeLine; decide, fun l3 hl3 => ?_⟩
    have c7 := c6.upd' (o := .lst (ds.map V.ref ++ (List.replicate (2 : Int).toNat [V.ref d5]).flatten)) hl3
    have k5 : Ext H5 (upd (upd (upd H5 l1 (.lst [.ref d5])) l2 (.lst (List.replicate (2 : Int).toNat [V.ref d5]).flatten)) l3 (.lst (ds.map V.ref ++ (List.replicate (2 : Int).toNat [V.ref d5]).flatten))) := ((Ext.upd hl1).upd' hl2).upd' hl3
    have k3 : (upd (upd (upd H5 l1 (.lst [.ref d5])) l2 (.lst (List.replicate (2 : Int).toNat [V.ref d5]).flatten)) l3 (.lst (ds.map V.ref ++ (List.replicate (2 : Int).toNat [V.ref d5]).flatten))) l3 = some (.lst (ds.map V.ref ++ (List.replicate (2 : Int).toNat [V.ref d5]).flatten)) := upd_same
    revert c7 k5 k3
    generalize upd (upd (upd H5 l1 (.lst [.ref d5])) l2 (.lst (List.replicate (2 : Int).toNat [V.ref d5]).flatten)) l3 (.lst (ds.map V.ref ++ (List.replicate (2 : Int).toNat [V.ref d5]).flatten)) = M
    intro c7 k5 k3
    refine ⟨_, rfl, _, rfl, _, rfl, p, d, -1, 0, e, wd, rfl, (e3.trans c7) _ _ hp, c7 _ _ hw3, pe.nd.1, by decide, by decide, by omega, fun g7 d7 H7 u7 _ a7 b7 v7 _ => ?_⟩
    have c8 := c7.trans u7
    refine ⟨_, rfl, _, rfl, _, rfl, d, p, -1, 0, wd, e, rfl, c8 _ _ hw3, (e3.trans c8) _ _ hp, ww.nd.1, by decide, by decide, by omega, fun g8 d8 H8 u8 _ a8 b8 v8 _ => ⟨by show 2 ≤ sizeLine; decide, fun l5 hl5 => ?_⟩⟩
    have c9 := c8.trans u8
    have w8 : Ext H8 (upd H8 l5 (.lst [.ref d7, .ref d8])) := Ext.upd hl5
    refine ⟨l3, l5, _, _, rfl, rfl, ((u7.trans u8).trans w8) _ _ k3, upd_same, by rw [List.length_append, l4]; show 4 + 2 + 2 ≤ sizeLine; decide, fun l6 hl6 => hd _ _ ?_⟩
    refine ⟨(c9.trans w8).upd' hl6, l6, ds ++ [d5, d5, d7, d8], ?_, by rw [List.length_append, hlD]; rfl, ?_, rfl⟩
    · rw [upd_same, List.map_append, List.append_assoc]
      rfl
    · have w9 := w8.upd' (o := .lst ((ds.map V.ref ++ (List.replicate (2 : Int).toNat [V.ref d5]).flatten) ++ [.ref d7, .ref d8])) hl6
      have w7 := u8.trans w9
      have w5 := (k5.trans u7).trans w7
      have D5 : Due H5 (fun k => ev e k + ev wd k) d5 := ⟨g5, a5, b5, fun k => by rw [v5, Int.sub_zero, Int.one_mul]⟩
      have D7 : Due H7 (fun k => ev e k - ev wd k) d7 := ⟨g7, a7, b7, fun k => by rw [v7, Int.sub_zero]; show ev e k + -1 * ev wd k = ev e k - ev wd k; omega⟩
      have D8 : Due H8 (fun k => ev wd k - ev e k) d8 := ⟨g8, a8, b8, fun k => by rw [v8, Int.sub_zero]; show ev wd k + -1 * ev e k = ev wd k - ev e k; omega⟩
      exact paired_append (Paired.mapP hDue fun F a hh => hh.ext (c5.trans w5)) (.cons (D5.ext w5) (.cons (D5.ext w5) (.cons (D7.ext w7) (.cons (D8.ext w9) .nil))))
  rintro σ G4 ⟨cG4, D', ds', hD', hlD', hDue', rfl⟩
  have e4 := e3.trans cG4
  have hw4 := cG4 _ _ hw3
  have l8 : (ds'.map V.ref).length = 8 := by rw [List.length_map, hlD']
  -- due, the last three
  refine seqP (fun σ H' => Ext G4 H' ∧ ∃ (D : Addr) (ds : List Addr), H' D = some (.lst (ds.map V.ref)) ∧ ds.length = 11 ∧ Paired (Due H') (FsL e f wd) ds ∧
    σ = [some (.ref p), some (.ref q), some (.int n), some (.ref xa), some (.ref ya), some (.ref d), some (.ref L), some (.ref D), none]) ?_ (fun hd => ⟨_, rfl, _, rfl, _, rfl, p, d, e, wd, rfl, e4 _ _ hp, hw4, pe.nd.1, kw, by omega, by omega, fun g9 d9 H9 c9 a9 b9 v9 _ => ⟨by show 1 ≤ sizeLine; decide, fun l1 hl1 => ?_⟩⟩)
  rotate_left
  · refine ⟨l1, 2, [.ref d9], rfl, rfl, upd_same, by decide, by decide, by show 1 * 2 ≤ sizeLine; decide, fun l2 hl2 => ?_⟩
    have c6 := (c9.upd' (o := .lst [.ref d9]) hl1).upd' (o := .lst (List.replicate (2 : Int).toNat [V.ref d9]).flatten) hl2
    refine ⟨D', l2, _, _, rfl, rfl, c6 _ _ hD', upd_same, by rw [l8]; show 8 + 2 ≤ sizeLine; decide, fun l3 hl3 => ?_⟩
    have c7 := c6.upd' (o := .lst (ds'.map V.ref ++ (List.replicate (2 : Int).toNat [V.ref d9]).flatten)) hl3
    have k5 : Ext H9 (upd (upd (upd H9 l1 (.lst [.ref d9])) l2 (.lst (List.replicate (2 : Int).toNat [V.ref d9]).flatten)) l3 (.lst (ds'.map V.ref ++ (List.replicate (2 : Int).toNat [V.ref d9]).flatten))) := ((Ext.upd hl1).upd' hl2).upd' hl3
    have k3 : (upd (upd (upd H9 l1 (.lst [.ref d9])) l2 (.lst (List.replicate (2 : Int).toNat [V.ref d9]).flatten)) l3 (.lst (ds'.map V.ref ++ (List.replicate (2 : Int).toNat [V.ref d9]).flatten))) l3 = some (.lst (ds'.map V.ref ++ (List.replicate (2 : Int).toNat [V.ref d9]).flatten)) := upd_same
    revert c7 k5 k3
    generalize upd (upd (upd H9 l1 (.lst [.ref d9])) l2 (.lst (List.replicate (2 : Int).toNat [V.ref d9]).flatten)) l3 (.lst (ds'.map V.ref ++ (List.replicate (2 : Int).toNat [V.ref d9]).flatten)) = M
    intro c7 k5 k3
    refine ⟨_, rfl, p, e, rfl, (e4.trans c7) _ _ hp, pe.nd, by omega, fun g11 d11 H11 u11 a11 b11 v11 _ => ⟨by show 1 ≤ sizeLine; decide, fun l5 hl5 => ?_⟩⟩
    have c8 := c7.trans u11
    have w8 : Ext H11 (upd H11 l5 (.lst [.ref d11])) := Ext.upd hl5
    refine ⟨l3, l5, _, _, rfl, rfl, (u11.trans w8) _ _ k3, upd_same, by rw [List.length_append, l8]; show 8 + 2 + 1 ≤ sizeLine; decide, fun l6 hl6 => hd _ _ ?_⟩
    refine ⟨(c8.trans w8).upd' hl6, l6, ds' ++ [d9, d9, d11], ?_, by rw [List.length_append, hlD']; rfl, ?_, rfl⟩
    · rw [upd_same, List.map_append, List.append_assoc]
      rfl
    · have w9 := w8.upd' (o := .lst ((ds'.map V.ref ++ (List.replicate (2 : Int).toNat [V.ref d9]).flatten) ++ [.ref d11])) hl6
      have w5 := (k5.trans u11).trans w9
      have D9 : Due H9 (cv wd (ev e)) d9 := ⟨g9, a9, b9, v9⟩
      have D11 : Due H11 (fun k => ev e (-k)) d11 := ⟨g11, a11, b11, v11⟩
      exact paired_append (Paired.mapP hDue' fun F a hh => hh.ext (c9.trans w5)) (.cons (D9.ext w5) (.cons (D9.ext w5) (.cons (D11.ext w9) .nil)))
  rintro σ G5 ⟨cG5, D5, ds5, hD5, hlD5, hDue5, rfl⟩
  have e5 := e4.trans cG5
  have cT : Ext G2 G5 := (cG3.trans cG4).trans cG5
  have hT5 : Paired (Tol K G5) (FsL e f wd) ts := Paired.mapP hT fun F a hh => hh.ext cT
  have hL5 := hL.ext cT
  have lts : ts.length = 11 := (Paired.length hT).symm
  have hl11 : (ts.map V.ref).length = (ds5.map V.ref).length := by rw [List.length_map, List.length_map, lts, hlD5]
  have hbd := fs_bd pe pf ww n1 n2
  refine ⟨_, rfl, _, rfl, L, D5, _, _, rfl, hL5, SqL.of hD5, fun Dl hDl => lc_it (te := teOne K) (walk_zipN (K := K) (a := L) (b := D5) hl11) (fun k H' => Ext G5 H' ∧ H' Dl = some (.lst (List.replicate k (V.bl true)))) ⟨Ext.upd hDl, upd_same⟩ (fun k H' _ pv => ⟨hL5.ext pv.1, (SqL.of hD5).ext pv.1⟩) (fun k x H' H'' hk pv y => ?_) (fun H' pv => ?_)⟩
  · obtain ⟨c1, hDk⟩ := pv
    obtain ⟨Tt, u, v, rfl, hTt, rfl, y1, y2⟩ := y
    have hk11 : k < 11 := by rw [List.length_map, lts] at hk; exact hk
    have hF : (FsL e f wd)[k]? = some ((FsL e f wd)[k]'(by show k < 11; exact hk11)) := List.getElem?_eq_getElem _
    generalize (FsL e f wd)[k]'(by show k < 11; exact hk11) = F at hF
    obtain ⟨a, ha, r, lr, nr, hr'⟩ := LiI.paired_get hT5 hF
    obtain ⟨g', hg', g, hg2, ng, hgv⟩ := LiI.paired_get hDue5 hF
    have y1' : (ts.map V.ref)[k]? = some u := y1
    have y2' : (ds5.map V.ref)[k]? = some v := y2
    rw [List.getElem?_map, ha] at y1'
    rw [List.getElem?_map, hg'] at y2'
    cases y1'
    cases y2'
    obtain ⟨N, M, b1, b2, b3, b4⟩ := hbd F (List.mem_of_getElem? hF)
    have one := mkOne ng nr hr' hgv b1 b2 b3 b4
    have c2 : Ext G5 (upd H' Tt (.tup [.ref a, .ref g'])) := c1.upd' hTt
    refine ⟨rfl, ?_⟩
    unfold tYes
    dsimp only
    rw [if_pos rfl]
    refine ⟨_, rfl, Tt, _, 0, _, rfl, rfl, SqT.of upd_same, rfl, _, rfl, Tt, _, 1, _, rfl, rfl, SqT.of upd_same, rfl, a, g', g, r, rfl, lr.ext c2, c2 _ _ hg2, one, fun H3 c3 => ⟨_, c3 _ _ (Ext.upd hTt _ _ hDk), by rw [List.length_replicate, sizeLine_eq]; omega, extPut (c2.trans c3) hDl, ?_⟩⟩
    rw [upd_same, List.replicate_succ']
  · obtain ⟨c1, hDk⟩ := pv
    rw [List.length_map, lts] at hDk
    refine ⟨Dl, List.replicate 11 true, rfl, SqL.of (by rw [hDk]; rfl), _, rfl, iteN (by rfl) ?_⟩
    have e6 := e5.trans c1
    have cX : Ext G H' := cG.trans (cT.trans c1)
    have tbx := (mkOne (F := ev e) pe.nd PX.nrm hx (fun _ => rfl) pe.bd (by decide) (by decide) (by decide +kernel)).tb
    have eb := eq_dicts pe.nd pf.nd PX.nrm PY.nrm hx hy
    refine ⟨_, rfl, _, rfl, own_LL (PX.lau.ext cX) (PY.lau.ext cX) ⟨_, rfl, _, rfl, own_LL (PX.lau.ext cX) (PY.lau.ext cX) ⟨_, rfl, _, rfl, own_LI (PX.lau.ext cX) ⟨_, rfl, _, rfl, xa, dxx, _, rfl, cX _ _ hxx, xa, rx, rfl, PX.lau.ext cX, tbx, fun H7 c7 => own_LS ((PX.lau.ext cX).ext c7) ⟨by show 4 ≤ sizeLine; decide, fun l hl => ?_⟩⟩⟩⟩⟩
    obtain ⟨o1, o2, o3, o4⟩ := bolD_ok (id (decide (rx = ry))) (Bool.not (decide (rx = ry)))
    have e8 := (e6.trans c7).upd' (o := .lst [.bl (id (decide (rx = ry))), .bl (Bool.not (decide (rx = ry))), .bl (id false), .bl (id false)]) hl
    refine ⟨l, bolD (id (decide (rx = ry))) (Bool.not (decide (rx = ry))), rfl, dp_bolD (SqL.of upd_same), o1, o2, o3, o4, _, rfl, _, rfl, p, q, e, f, rfl, rfl, e8 _ _ hp, e8 _ _ hq, _, rfl, _, rfl, p, q, e, f, rfl, rfl, e8 _ _ hp, e8 _ _ hq, by show 4 ≤ sizeLine; decide, fun l2 hl2 => ?_⟩
    obtain ⟨p1, p2, p3, p4⟩ := bolD_ok (id (dEq e f)) (Bool.not (dEq e f))
    refine ⟨l2, bolD (id (dEq e f)) (Bool.not (dEq e f)), rfl, dp_bolD (SqL.of upd_same), p1, p2, p3, p4, rfl, ?_⟩
    have fin := Qk _ (e8.upd' (o := .lst [.bl (id (dEq e f)), .bl (Bool.not (dEq e f)), .bl false, .bl false]) hl2)
    have ed : decide (V.str (bolD (id (decide (rx = ry))) (Bool.not (decide (rx = ry)))).shown = V.str (bolD (id (dEq e f)) (Bool.not (dEq e f))).shown) = true := decide_eq_true (by rw [eb])
    exact (show Q (.bl (decide (V.str (bolD (id (decide (rx = ry))) (Bool.not (decide (rx = ry)))).shown = V.str (bolD (id (dEq e f)) (Bool.not (dEq e f))).shown))) _ from by rw [ed]; exact fin)
end
end Lau
end
section
/-! ## part M5 -/
set_option maxHeartbeats 4000000
namespace Lau
open PySem PySem.Spec PyProof.Rows L2
section
variable {K : PySem.W.Frag} {H H' : Hp} {w a : Addr}
theorem SqT.offW {xs : List V} (hw : WellAt H w) (o : Off w H H') (h : SqT K H a xs) : SqT K H' a xs := by
  obtain ⟨x, s, c, hw⟩ := hw
  rcases h with (h | ⟨ob, h⟩) | h
  · exact .inl (.inl (o _ _ (ne_of h hw (by intro z; cases z)) h))
  · exact .inl (.inr ⟨ob, o _ _ (ne_of h hw (by intro z; cases z)) h⟩)
  · exact .inr h
theorem LauAt.offW {r : Raw} (hw : WellAt H w) (o : Off w H H') (h : LauAt K H a r) : LauAt K H' a r := by
  obtain ⟨dx, q, h1, t, h2, h3⟩ := h
  have hne : a ≠ w := by
    obtain ⟨x, s, c, hw⟩ := hw
    exact ne_of h1 hw (by intro z; cases z)
  exact ⟨dx, q, o _ _ hne h1, t, SqT.offW hw o h2, SqT.offW hw o h3⟩
theorem PL.offW {r : Raw} (hw : WellAt H w) (o : Off w H H') (h : PL K H a r) : PL K H' a r := ⟨LauAt.offW hw o h.lau, h.nrm, h.big, h.sm⟩
theorem dict_off {kvs : List (Key × V)} (hw : WellAt H w) (o : Off w H H') (h : H a = some (.dK kvs)) : H' a = some (.dK kvs) := o _ _ (hw.neD h) h
end
/-! powers of a poly -/
theorem pow_bd {e : Ent} (h : Poly e) : ∀ n : Nat, Bd (pwF e n) (10 * n) ((4 * B0) ^ n)
  | 0 => by
    refine ⟨fun k q => ?_, fun k => ?_⟩
    · simp only [pwF] at q
      by_cases z : k = 0
      · subst z; omega
      · rw [if_neg z] at q; exact absurd rfl q
    · simp only [pwF]
      split <;> decide
  | n + 1 => by
    have ih := pow_bd h n
    have c := Bd.conv (l := 4) (C := B0) (by decide) h.len h.ks (fun p hp => by have := h.vs p hp; unfold B0; omega) ih
    have e1 : ((4 : Nat) : Int) * (B0 * (4 * B0) ^ n) = (4 * B0) ^ (n + 1) := by
      rw [Int.pow_succ, ← Int.mul_assoc, Int.mul_comm]
      rfl
    have e2 : 10 + 10 * (n : Int) = 10 * ((n + 1 : Nat) : Int) := by omega
    rw [e1, e2] at c
    exact c
theorem pow_bd5 {e : Ent} (h : Poly e) {n : Nat} (hn : n ≤ 5) : ∃ N M : Int, Bd (pwF e n) N M ∧ 0 ≤ N ∧ N ≤ 900 ∧ M < 2 ^ 600 := by
  refine ⟨_, _, pow_bd h n, by omega, by omega, ?_⟩
  rcases (show n = 0 ∨ n = 1 ∨ n = 2 ∨ n = 3 ∨ n = 4 ∨ n = 5 by omega) with rfl | rfl | rfl | rfl | rfl | rfl <;> decide +kernel
/-! single powers -/
theorem nrm_one (a : Int) : Nrm (a, [1]) := by
  have e : rat (a, [1]) a = 1 := by
    have := rat_of (r := (a, [1])) (i := 0) (c := 1) rfl
    simpa using this
  refine .inr ⟨by simp, ?_, ?_⟩
  · show rat (a, [1]) a ≠ 0
    rw [e]; decide
  · show rat (a, [1]) (a + (1 : Nat) - 1) ≠ 0
    rw [show a + ((1 : Nat) : Int) - 1 = a by omega, e]; decide
theorem rat_single (a k : Int) : rat (a, [1]) k = if a = k then 1 else 0 := by
  rw [rat_cons, rat_nil, Int.add_zero]
theorem one_single {a : Int} (h1 : -30000 ≤ a) (h2 : a ≤ 30000) : One [(a, 1)] (a, [1]) := by
  refine ⟨⟨by unfold KN keys; simp, fun p hp => by rw [List.mem_singleton.mp hp]; show (1 : Int) ≠ 0; decide⟩, nrm_one a, fun k => ?_, ⟨⟨by show -100000 ≤ a; omega, by show a ≤ 100000; omega⟩, by show 1 ≤ 100000; decide, ?_, fun c hc => ?_⟩, by show 1 ≤ 2000; decide⟩
  · rw [rat_single]
    simp [ev]
  · show (nzE [(a, 1)]).length ≤ 20000
    have := len_nz [(a, (1 : Int))]
    simp at this ⊢
    omega
  · have hc' : c = 1 := List.mem_singleton.mp hc
    rw [hc']
    decide +kernel
theorem row_single {a : Int} {r : Raw} (n : Nrm r) (h : ∀ k, rat r k = if a = k then 1 else 0) : r = (a, [1]) := nrm_unique n (nrm_one a) fun k => by rw [h, rat_single]
theorem txt_nil : txt (0, []) = Str.ofString "0" := by
  unfold txt
  rw [if_pos (show nzL (0, []) = [] from rfl)]
theorem tb_nil : TB (0, []) := ⟨⟨by decide, by decide⟩, by decide, by decide, fun _ h => nomatch h⟩
theorem rat_nil0 (k : Int) : rat (0, []) k = 0 := rat_nil 0 k
/-! what is picked -/
theorem num_of {x : V} {i : Nat} (h : ([.int 0, .int 1, .int (-1), .int 3, .int (-(10 ^ (18 : Int).toNat)), .int 25, .int (2 ^ (40 : Int).toNat)] : List V)[i]? = some x) : ∃ v : Int, x = .int v ∧ -B0 ≤ v ∧ v ≤ B0 := by
  have hm := List.mem_of_getElem? h
  simp only [List.mem_cons, List.not_mem_nil, or_false] at hm
  rcases hm with rfl | rfl | rfl | rfl | rfl | rfl | rfl
  · exact ⟨_, rfl, by decide, by decide⟩
  · exact ⟨_, rfl, by decide, by decide⟩
  · exact ⟨_, rfl, by decide, by decide⟩
  · exact ⟨_, rfl, by decide, by decide⟩
  · exact ⟨_, rfl, by decide +kernel, by decide +kernel⟩
  · exact ⟨_, rfl, by decide, by decide⟩
  · exact ⟨_, rfl, by decide +kernel, by decide +kernel⟩
theorem far_of {x : V} {i : Nat} (h : ([.int 400, .int (-400), .int 399, .int (-1), .int 17, .int 1] : List V)[i]? = some x) : ∃ v : Int, x = .int v ∧ -400 ≤ v ∧ v ≤ 400 := by
  have hm := List.mem_of_getElem? h
  simp only [List.mem_cons, List.not_mem_nil, or_false] at hm
  rcases hm with rfl | rfl | rfl | rfl | rfl | rfl <;> exact ⟨_, rfl, by decide, by decide⟩
/-- the last laurent of the law -/
theorem last_one {g : Ent} {r : Raw} {far n : Int} (ng : ND g) (nr : Nrm r) (hr : ∀ k, rat r k = rat (far, [n, 0, 2]) k) (hg : ∀ k, ev g k = ev [(far + 2, 2)] k + 1 * ev [(far, n)] (k - 0)) (h1 : -400 ≤ far) (h2 : far ≤ 400) (h3 : -B0 ≤ n) (h4 : n ≤ B0) : One g r := by
  have e : ∀ k, rat (far, [n, 0, 2]) k = ev [(far, n), (far + 1, 0), (far + 2, 2)] k := fun k => by
    rw [← ev_row]
    show ev [(far, n), (far + 1, 0), (far + 1 + 1, 2)] k = _
    rw [show far + 1 + 1 = far + 2 by omega]
  have kn : KN [(far, n), (far + 1, 0), (far + 2, 2)] := by
    unfold KN keys
    simp
    omega
  have hB : (2 : Int) ≤ B0 := by decide
  have b : Bd (ev [(far, n), (far + 1, 0), (far + 2, 2)]) 402 B0 := ev_bd kn (by decide) (fun p hp => by
    simp only [List.mem_cons, List.not_mem_nil, or_false] at hp
    rcases hp with rfl | rfl | rfl <;> (constructor <;> simp only <;> omega)) (fun p hp => by
    simp only [List.mem_cons, List.not_mem_nil, or_false] at hp
    rcases hp with rfl | rfl | rfl <;> (constructor <;> simp only <;> omega))
  refine mkOne ng nr (fun k => by rw [hr, e]) (fun k => ?_) b (by decide) (by decide) (by decide +kernel)
  rw [hg, Int.sub_zero]
  simp only [ev]
  have z : (if far + 1 = k then (0 : Int) else 0) = 0 := by split <;> rfl
  rw [z]
  omega
end Lau
end
section
/-! ## part L9 -/
set_option maxHeartbeats 4000000
namespace Lau
open PySem PySem.Spec PyProof.Rows L2
theorem cat_tup {K : PySem.W.Frag} {H : Hp} {a b : Addr} {xs ys : List V} {Q : VK} (ha : SqT K H a xs) (hb : SqT K H b ys) (hz : xs.length + ys.length ≤ 100000) (q : ∀ p H', Ext H H' → SqT K H' p (xs ++ ys) → Q (.ref p) H') : rCatA K (.ref a) (.ref b) H Q := by
  refine ⟨a, b, xs, ys, rfl, rfl, ha, hb, by rw [sizeLine_eq]; omega, fun e => q b H Ext.rfl' (by rw [e]; exact hb), fun _ e => q a H Ext.rfl' (by rw [e, List.append_nil]; exact ha), fun _ _ p hp => q p _ (Ext.upd hp) (SqT.of upd_same)⟩
theorem rep_zero (k : Nat) : (List.replicate k [V.int 0]).flatten = (List.replicate k (0 : Int)).map V.int := by
  induction k with
  | zero => rfl
  | succ k ih => rw [List.replicate_succ, List.flatten_cons, ih]; rfl
theorem pow_ok {K : PySem.W.Frag} {H : Hp} {xa : Addr} {rx : Raw} {n : Nat} {Q : VK} (hl : LauAt K H xa rx) (hs : Sm64 rx) (hn : n ≤ 64) (hz : rx.2.length ≤ 1000) (q : ∀ r t H', Ext H H' → Nrm r → (∀ k, rat r k = pwF (rowE rx.1 rx.2) n k) → LauAt K H' t r → Q (.ref t) H') : rBin (LC K) (spPow K) (.ref xa) (.int n) H Q := by
  obtain ⟨dx, p, h1, _⟩ := id hl
  exact ⟨xa, dx, _, rfl, h1, .inr ⟨n, rfl⟩, xa, n, rx, rfl, hn, hl, hs, hz, fun r t H' e n' h l => q r t H' e n' h l⟩
theorem mk_lauR {K : PySem.W.Frag} {H : Hp} {lo : Int} {t : Addr} {cs : List Int} {R : Addr → Hp → Prop} (ht : SqT K H t (cs.map V.int)) (h1 : -400 ≤ lo) (h2 : lo ≤ 400) (h3 : cs.length ≤ 800)
    (q : ∀ r x H', Ext H H' → Nrm r → (∀ k, rat r k = rat (lo, cs) k) → LauAt K H' x r → R x H') :
    ∀ x dx, H x = none → H dx = none → dx ≠ x → spInit K [.ref x, .int lo, .ref t, .non] (upd (upd H dx (.own x)) x (.ins (LC K) dx [])) (fun v H2 => v = .non ∧ R x H2) E0 := fun x dx hx hdx hne => by
  have e2 : Ext H (upd (upd H dx (.own x)) x (.ins (LC K) dx [])) := (Ext.upd hdx).upd' (by rw [upd_ne (Ne.symm hne)]; exact hx)
  refine ⟨x, dx, lo, t, cs, .non, rfl, upd_same, ht.ext e2, .inl ⟨rfl, h1, h2, h3, fun r p H1 e3 n hr hp => ⟨rfl, ?_⟩⟩⟩
  have hx1 := e3 _ _ (show (upd (upd H dx (.own x)) x (.ins (LC K) dx [])) x = some (.ins (LC K) dx []) from upd_same)
  exact q r x _ (extPut (e2.trans e3) hx) n hr ⟨dx, p, upd_same, RawAt.offI hx1 hp⟩
theorem ne_same {r r' : Raw} (h : r = r') : Bool.not (decide (r = r')) = false := by rw [decide_eq_true h]; rfl
section
variable {P : Program} {w : World} {K : PySem.W.Frag} {mg : Str → Option Value} {base : Heap}
theorem kbPow {fd : FuncData} {f : Addr} (F : FunD K "power" "Laurent.power" (defArgs (inL 18)) (defBody (inL 18)) (defScope (inL 18)) [] [] f fd) : KBn K fd ["self", "exponent"] 1 ["exponent"] (fun us ws => us ++ ws) (fun vs zs => vs ++ zs) :=
  kbN F 1 ["exponent"] (fun us ws => us ++ ws) (fun r1 r2 => r1.append r2) (fun _ _ _ _ _ _ us ws hl hw => match us, hl, ws, hw with | [_], _, [_], _ => rfl)
theorem kbLet {fd : FuncData} {f : Addr} (F : FunD K "letter" "letter" (defArgs (top 30)) (defBody (top 30)) (defScope (top 30)) [] [] f fd) : KBn K fd ["power"] 0 ["power"] (fun us ws => us ++ ws) (fun vs zs => vs ++ zs) :=
  kbN F 0 ["power"] (fun us ws => us ++ ws) (fun r1 r2 => r1.append r2) (fun _ _ _ _ _ _ us ws hl hw => match us, hl, ws, hw with | [], _, [_], _ => rfl)
theorem kbRead {fd : FuncData} {f : Addr} (F : FunD K "read" "Laurent.read" (defArgs (inL 1)) (defBody (inL 1)) (defScope (inL 1)) [] [] f fd) : KBn K fd ["text"] 0 ["text"] (fun us ws => us ++ ws) (fun vs zs => vs ++ zs) :=
  kbN F 0 ["text"] (fun us ws => us ++ ws) (fun r1 r2 => r1.append r2) (fun _ _ _ _ _ _ us ws hl hw => match us, hl, ws, hw with | [], _, [_], _ => rfl)
theorem bRead {fd : FuncData} {f : Addr} (F : FunD K "read" "Laurent.read" (defArgs (inL 1)) (defBody (inL 1)) (defScope (inL 1)) [] [] f fd) : Binds K fd ["text"] [] := F.bindsN (fun _ _ _ _ _ _ us hl => match us, hl with | [_], _ => rfl)
/-- _law_right -/
def spRt : Sp := fun vs H Q _ => ∃ wl : Addr, vs = [.ref wl] ∧ WellAt H wl ∧ ∀ H', Off wl H H' → Q (.bl true) H'
abbrev nmRt : List Str := ["_law_well_here", "_law_one", "_law_two", "_law_number", "_law_many", "_law_x", "_law_ends", "_law_wide", "_law_far"]
theorem scRt : FnScope nmRt ["_law_well_here"] (defScope (top 44)) := C8.fnScope_by (by decide +kernel)
theorem cal_rt (T : Txt K mg) : CalG P w K mg base 10 "_law_right" spRt := by
  obtain ⟨fdi, Fi⟩ := funInit T
  obtain ⟨ds1, dv1, b1⟩ := bInit1 Fi
  obtain ⟨its, kbI⟩ := bInitK Fi
  obtain ⟨fdp, Fp⟩ := funPow T
  obtain ⟨fdr, Fr⟩ := funRead T
  obtain ⟨fl, fdl, Fl, hml⟩ := T.fn 19 (x := "letter") (i := 30) rfl rfl
  refine calG (k := 9) (T.fn 32 rfl rfl) scRt (fun _ _ _ _ _ _ us hl => match us, hl with | [_], _ => rfl) (fun vs H Q E h => by obtain ⟨_, rfl, _⟩ := h; rfl) (fun f cdv A outer s H vs Q hr hg h => ?_)
  refine ⟨_, pss_cons (ps_par (i := 1) (j := 2) rfl scRt.nd rfl rfl (by decide) rfl rfl (pa_cons (C8.pe_c (cal_poly T) hr (by decide) (by rfl) (pa_cons (pv 0) (pa_cons pe_int pa_nil))) (pa_cons (C8.pe_c (cal_poly T) hr (by decide) (by rfl) (pa_cons (pv 0) (pa_cons pe_int pa_nil))) pa_nil)) (by rfl))
    (pss_cons (ps_par (i := 3) (j := 4) rfl scRt.nd rfl rfl (by decide) rfl rfl (pa_cons (C8.pe_c (cal_pick T) hr (by decide) (by rfl) (pa_cons (pv 0) (pa_cons (pe_lst (pa_cons pe_int (pa_cons pe_int (pa_cons (pe_un un_neg pe_int) (pa_cons pe_int (pa_cons (pe_un un_neg (pe_op op_pow pe_int pe_int)) (pa_cons pe_int (pa_cons (pe_op op_pow pe_int pe_int) pa_nil)))))))) pa_nil))) (pa_cons (C8.pe_c (cal_dip T) hr (by decide) (by rfl) (pa_cons (pv 0) (pa_cons pe_int pa_nil))) pa_nil)) (by rfl))
    (pss_cons (ps_set (i := 5) scRt.nd rfl (Or.inl rfl) (C8.pe_c (cal_lla T) hr (by decide) (by rfl) (pa_cons (pv 1) pa_nil)))
    (pss_cons (ps_if (PW.pt (pw_or (pt_not (pt_val (pe_g (cal_one T) hr (by decide) hg (by rfl) (pa_cons (pv 5) (pa_cons (pv 1) pa_nil))))) (pw_or (pt_not (pt_val (pe_g (cal_sig T) hr (by decide) hg (by rfl) (pa_cons (pv 1) (pa_cons (pv 2) (pa_cons (pv 3) pa_nil))))))
        (pw_or1 (pt_not (pt_val (pe_g (cal_sig T) hr (by decide) hg (by rfl) (pa_cons (pv 1) (pa_cons (pe_callTy call_dictD (by rfl) (T.free 3) (by decide +kernel) (pa_cons (pv 1) pa_nil)) (pa_cons (pv 3) pa_nil)))))))))) (pss_one (ps_ret pe_bl)) pss_nil)
    (pss_cons (ps_if (PW.pt (pw_or (pt_not (pt_val (pe_g (cal_one T) hr (by decide) hg (by rfl) (pa_cons (C8.pe_mt (metL T 11 rfl (fn_power T)) hr (by decide) (pv 5) (pa_cons (pv 4) pa_nil)) (pa_cons (C8.pe_c (cal_rai T) hr (by decide) (by rfl) (pa_cons (pv 1) (pa_cons (pv 4) pa_nil))) pa_nil)))))
        (pw_or1 (pt_cmpR (neL' T hr (by decide)) (pe_methKw0 (pv 5) T.cls.cl (T.met 11 rfl) (ok_pow T Fp) (hr.mono (by decide)) (kbPow Fp) (pk_cons (pv 4) pk_nil)) (C8.pe_mt (metL T 11 rfl (fn_power T)) hr (by decide) (pv 5) (pa_cons (pv 4) pa_nil)) (nomark _))))) (pss_one (ps_ret pe_bl)) pss_nil)
    (pss_cons (ps_if (PW.pt (pw_or (pt_cmpR (neL' T hr (by decide)) (pe_op (powL T hr (by decide)) (pv 5) pe_int) (C8.pe_mt (metL T 11 rfl (fn_power T)) hr (by decide) (pv 5) (pa_cons pe_int pa_nil)) (nomark _))
        (pw_or (pt_cmpR (neL' T hr (by decide)) (pe_op (powL T hr (by decide)) (pv 5) pe_int) (pv 5) (nomark _))
        (pw_or1 (pt_not (pt_val (pe_g (cal_one T) hr (by decide) hg (by rfl) (pa_cons (pe_op (powL T hr (by decide)) (pv 5) pe_int) (pa_cons (C8.pe_c (cal_rai T) hr (by decide) (by rfl) (pa_cons (pv 1) (pa_cons pe_int pa_nil))) pa_nil))))))))) (pss_one (ps_ret pe_bl)) pss_nil)
    (pss_cons (ps_set (i := 6) scRt.nd rfl (Or.inl rfl) (pe_op op_repTA (pe_tup (pa_cons pe_int pa_nil)) (C8.pe_c (cal_dip T) hr (by decide) (by rfl) (pa_cons (pv 0) (pa_cons pe_int pa_nil)))))
    (pss_cons (ps_set (i := 7) scRt.nd rfl (Or.inl rfl) (pe_makeK0 T.mkC (ok_init T Fi) (hr.mono (by decide)) (by rfl) T.gC kbI pass0
        (pk_cons (pe_op op_catA (pe_op op_catA (pv 6) (pe_pr T 2 rfl (fn_coefs T) hr (by decide) (pv 5) rfl)) (pv 6)) (pk_cons (pe_op op_sub (pe_pr T 0 rfl (fn_low T) hr (by decide) (pv 5) rfl) (pe_callB call_len_seq (by rfl) (T.free 8) (by decide +kernel) (pa_cons (pv 6) pa_nil))) pk_nil))))
    (pss_cons (ps_if (PW.pt (pw_or (pt_cmpR (neL' T hr (by decide)) (pv 7) (pv 5) (nomark _))
        (pw_or (pt_cmpR (neL' T hr (by decide)) (pe_stat (pe_glob (v := .ref (LC K)) (by rfl) T.gC rfl) T.stat (ok_read T Fr) (hr.mono (by decide)) (bRead Fr) (pa_cons (pe_pr T 5 rfl (fn_text T) hr (by decide) (pv 5) rfl) pa_nil)) (pv 5) (nomark _))
        (pw_or1 (pt_cmpR (neL' T hr (by decide)) (pe_statKw0 (pe_glob (v := .ref (LC K)) (by rfl) T.gC rfl) T.stat (ok_read T Fr) (hr.mono (by decide)) (kbRead Fr) (pk_cons pe_str pk_nil))
          (pe_make T.mkC (ok_init T Fi) (hr.mono (by decide)) (by rfl) T.gC b1 dv1 pass0 (pa_cons pe_int (pa_cons (pe_op op_repTA (pe_tup (pa_cons pe_int pa_nil)) pe_int) pa_nil))) (nomark _)))))) (pss_one (ps_ret pe_bl)) pss_nil)
    (pss_cons (ps_set (i := 8) scRt.nd rfl (Or.inl rfl) (C8.pe_c (cal_pick T) hr (by decide) (by rfl) (pa_cons (pv 0) (pa_cons (pe_lst (pa_cons pe_int (pa_cons (pe_un un_neg pe_int) (pa_cons pe_int (pa_cons (pe_un un_neg pe_int) (pa_cons pe_int (pa_cons pe_int pa_nil))))))) pa_nil))))
    (pss_cons (ps_if (PW.pt (pw_or (pt_not (pt_val (pe_g (cal_one T) hr (by decide) hg (by rfl) (pa_cons (C8.pe_c (cal_let T) hr (by decide) (by rfl) (pa_cons (pv 8) pa_nil)) (pa_cons (pe_disp (pps_cons (pv 8) pe_int pps_nil) rfl rfl (by simp) (by decide)) pa_nil)))))
        (pw_or1 (pt_not (pt_val (pe_g (cal_one T) hr (by decide) hg (by rfl) (pa_cons (pe_op (powL T hr (by decide)) (pe_callKw0 (ok_let T Fl) (hr.mono (by decide)) (by rfl) hml Fl.kp (kbLet Fl) (pk_cons (pv 8) pk_nil)) pe_int) (pa_cons (pe_disp (pps_cons (pe_op op_mul pe_int (pv 8)) pe_int pps_nil) rfl rfl (by simp) (by decide)) pa_nil)))))))) (pss_one (ps_ret pe_bl)) pss_nil)
    (pss_one (ps_ret (pe_g (cal_one T) hr (by decide) hg (by rfl) (pa_cons (pe_make T.mkC (ok_init T Fi) (hr.mono (by decide)) (by rfl) T.gC b1 dv1 pass0 (pa_cons (pv 8) (pa_cons (pe_tup (pa_cons (pv 3) (pa_cons pe_int (pa_cons pe_int pa_nil)))) pa_nil)))
      (pa_cons (C8.pe_c (cal_add T) hr (by decide) (by rfl) (pa_cons (pe_disp (pps_cons (pe_op op_add (pv 8) pe_int) pe_int pps_nil) rfl rfl (by simp) (by decide)) (pa_cons (pe_disp (pps_cons (pv 8) (pv 3) pps_nil) rfl rfl (by simp) (by decide)) (pa_cons pe_int (pa_cons pe_int pa_nil))))) pa_nil))))))))))))))), ?_⟩
  obtain ⟨wl, rfl, hw, Qk⟩ := h
  refine seqP (fun σ H' => Off wl H H' ∧ WellAt H' wl ∧ ∃ (p q : Addr) (e f : Ent), H' p = some (.dK (eKV e)) ∧ H' q = some (.dK (eKV f)) ∧ Poly e ∧ Poly f ∧ σ = [some (.ref wl), some (.ref p), some (.ref q), none, none, none, none, none, none]) ?_
    (fun hd => ⟨_, rfl, wl, rfl, hw, fun e p H1 o1 w1 _ hp pe => ⟨_, rfl, wl, rfl, w1, fun f q H2 o2 w2 _ hq pf => ⟨_, _, rfl, hd _ _ ⟨o1.trans o2, w2, p, q, e, f, dict_off w1 o2 hp, hq, pe, pf, rfl⟩⟩⟩⟩)
  rintro σ G ⟨o0, w0, p, q, e, f, hp, hq, pe, pf, rfl⟩
  refine seqP (fun σ H' => Off wl H H' ∧ WellAt H' wl ∧ ∃ (n : Int) (m : Nat), H' p = some (.dK (eKV e)) ∧ H' q = some (.dK (eKV f)) ∧ -B0 ≤ n ∧ n ≤ B0 ∧ m ≤ 5 ∧ σ = [some (.ref wl), some (.ref p), some (.ref q), some (.int n), some (.int m), none, none, none, none]) ?_
    (fun hd => ⟨_, rfl, _, rfl, _, _, rfl, rfl, ⟨by decide, by decide, by decide⟩, _, rfl, _, _, rfl, rfl, ⟨by decide, by decide, by decide⟩, by show 7 ≤ sizeLine; decide, fun l hl => ⟨wl, l, _, rfl, w0.ext (Ext.upd hl), upd_same, w0.ne hl, by show 0 < 7; decide, by show 7 < 1000; decide, fun i x H3 o3 w3 hx => ?_⟩⟩)
  rotate_left
  · obtain ⟨n, rfl, n1, n2⟩ := num_of hx
    have wA := w0.ext (Ext.upd (o := .lst [.int 0, .int 1, .int (-1), .int 3, .int (-(10 ^ (18 : Int).toNat)), .int 25, .int (2 ^ (40 : Int).toNat)]) hl)
    refine ⟨_, rfl, wl, 6, rfl, w3, by decide, by decide, fun m0 H4 o4 w4 m1 m2 => ⟨_, _, rfl, ?_⟩⟩
    obtain ⟨m, rfl⟩ : ∃ m : Nat, m0 = m := ⟨m0.toNat, by omega⟩
    refine hd _ _ ⟨((o0.trans (Off.of (Ext.upd hl))).trans o3).trans o4, w4, n, m, ?_, ?_, n1, n2, by omega, rfl⟩
    · exact dict_off w3 o4 (dict_off wA o3 (Ext.upd hl _ _ hp))
    · exact dict_off w3 o4 (dict_off wA o3 (Ext.upd hl _ _ hq))
  rintro σ G2 ⟨o2, w2, n, m, hp2, hq2, n1, n2, hm, rfl⟩
  have ke : ∀ y ∈ e, -100 ≤ y.1 ∧ y.1 ≤ 100 := fun y hy => by have := pe.ks y hy; omega
  have ve : ∀ y ∈ e, -(2 ^ 64) < y.2 ∧ y.2 < 2 ^ 64 := fun y hy => by have := pe.vs y hy; omega
  refine ⟨_, rfl, p, e, rfl, hp2, pe.nd, ke, fun rx xa H3 e3 nx hx lx => ?_⟩
  obtain ⟨bx, sx, lenx, lo1, lo2⟩ := pe.row nx hx
  have onex : One e rx := mkOne (F := ev e) pe.nd nx hx (fun _ => rfl) pe.bd (by decide) (by decide) (by decide +kernel)
  obtain ⟨dxx, qx, hxx, _⟩ := id lx
  -- the first test
  refine ⟨_, rfl, _, rfl, xa, p, e, rx, rfl, lx, e3 _ _ hp2, onex, fun H4 u4 => ⟨true, rfl, iteN rfl ⟨_, rfl, _, rfl, _, rfl, p, q, n, e, f, rfl, (e3.trans u4) _ _ hp2, (e3.trans u4) _ _ hq2, pe, pf, n1, n2, fun H5 u5 => ⟨true, rfl, iteN rfl ⟨_, rfl, _, rfl, p, _, rfl, .inl ((e3.trans (u4.trans u5)) _ _ hp2), fun d hdn => ⟨_, rfl, p, d, n, e, e, rfl, (e3.trans ((u4.trans u5).upd' hdn)) _ _ hp2, upd_same, pe, pe, n1, n2, fun H6 u6 => ⟨true, rfl, iteN rfl ?_⟩⟩⟩⟩⟩⟩⟩
  have c6 : Ext H3 H6 := ((u4.trans u5).upd' hdn).trans u6
  have rowEv : ∀ k, ev (rowE rx.1 rx.2) k = ev e k := fun k => (ev_row rx.2 rx.1 k).trans (hx k)
  have hl1000 : rx.2.length ≤ 1000 := by omega
  -- powers
  refine ⟨_, rfl, xa, dxx, _, rfl, c6 _ _ hxx, lk_no (by decide +kernel), _, rfl, xa, m, rx, rfl, by omega, lx.ext c6, sx, hl1000, fun r1 t1 H7 u7 y1 h1 l1 => ⟨_, rfl, _, rfl, p, m, e, rfl, (e3.trans (c6.trans u7)) _ _ hp2, ve, pe.len, hm, fun g d2 H8 u8 hg ng hgv _ => ⟨t1, d2, g, r1, rfl, l1.ext u8, hg, ?_, fun H9 u9 => ⟨true, rfl, iteN rfl ?_⟩⟩⟩⟩
  · obtain ⟨N, M, b1, b2, b3, b4⟩ := pow_bd5 pe hm
    exact mkOne ng y1 (fun k => (h1 k).trans (pw_same rowEv m k)) hgv b1 b2 b3 b4
  have c9 := ((c6.trans u7).trans u8).trans u9
  refine ⟨_, rfl, xa, dxx, _, rfl, c9 _ _ hxx, lk_no (by decide +kernel), _, rfl, rfl, xa, m, rx, rfl, by omega, lx.ext c9, sx, hl1000, fun r2 t2 H10 u10 y2 h2 l2 => ⟨_, rfl, xa, dxx, _, rfl, (c9.trans u10) _ _ hxx, lk_no (by decide +kernel), _, rfl, xa, m, rx, rfl, by omega, lx.ext (c9.trans u10), sx, hl1000, fun r3 t3 H11 u11 y3 h3 l3 => own_LL (l2.ext u11) l3 ⟨_, rfl, iteN (ne_same (nrm_unique y2 y3 fun k => by rw [h2, h3])) ?_⟩⟩⟩
  have c11 := (c9.trans u10).trans u11
  refine ⟨_, rfl, pow_ok (n := 0) (lx.ext c11) sx (by decide) hl1000 fun r4 t4 H12 u12 y4 h4 l4 => ⟨_, rfl, xa, dxx, _, rfl, (c11.trans u12) _ _ hxx, lk_no (by decide +kernel), xa, 0, rx, rfl, by decide, lx.ext (c11.trans u12), sx, hl1000, fun r5 t5 H13 u13 y5 h5 l5 => own_LL (l4.ext u13) l5 ⟨_, rfl, iteN (ne_same (nrm_unique y4 y5 fun k => by rw [h4, h5])) ?_⟩⟩⟩
  have c13 := (c11.trans u12).trans u13
  refine ⟨_, rfl, pow_ok (n := 1) (lx.ext c13) sx (by decide) hl1000 fun r6 t6 H14 u14 y6 h6 l6 => ⟨_, rfl, own_LL l6 (lx.ext (c13.trans u14)) ⟨_, rfl, iteN (ne_same (nrm_unique y6 nx fun k => by rw [h6, pw_one, ev_row])) ?_⟩⟩⟩
  have c14 := c13.trans u14
  refine ⟨_, rfl, pow_ok (n := 3) (lx.ext c14) sx (by decide) hl1000 fun r7 t7 H15 u15 y7 h7 l7 => ⟨_, rfl, p, 3, e, rfl, (e3.trans (c14.trans u15)) _ _ hp2, ve, pe.len, by decide, fun g3 d3 H16 u16 hg3 ng3 hgv3 _ => ⟨t7, d3, g3, r7, rfl, l7.ext u16, hg3, ?_, fun H17 u17 => ⟨true, rfl, iteN rfl ?_⟩⟩⟩⟩
  · obtain ⟨N, M, b1, b2, b3, b4⟩ := pow_bd5 pe (n := 3) (by decide)
    exact mkOne ng3 y7 (fun k => (h7 k).trans (pw_same rowEv 3 k)) hgv3 b1 b2 b3 b4
  have c17 := ((c14.trans u15).trans u16).trans u17
  have o17 : Off wl H H17 := o2.trans (Off.of (e3.trans c17))
  have w17 : WellAt H17 wl := w2.ext (e3.trans c17)
  have l17 := lx.ext c17

  -- noughts at both ends
  refine nextI ?_
  refine ⟨by show 1 ≤ sizeLine; decide, fun t ht => ⟨_, rfl, wl, 3, rfl, w17.ext (Ext.upd ht), by decide, by decide, fun k0 H18 o18 w18 k1 k2 => ?_⟩⟩
  have wA := w17.ext (Ext.upd (o := .tup [.int 0]) ht)
  have x18 : LauAt K H18 xa rx := LauAt.offW wA o18 (l17.ext (Ext.upd ht))
  have o18' : Off wl H H18 := (o17.trans (Off.of (Ext.upd ht))).trans o18
  obtain ⟨kk, rfl⟩ : ∃ kk : Nat, k0 = kk := ⟨k0.toNat, by omega⟩
  refine ⟨t, kk, [.int 0], rfl, rfl, SqT.offW wA o18 (SqT.of upd_same), by simp, k1, by omega, by show 1 ≤ 1000; decide, fun E19 H19 e19 hE => ?_⟩
  rw [Int.toNat_natCast, rep_zero] at hE
  have x19 := x18.ext e19
  have o19 := o18'.trans (Off.of e19)
  have w19 := w18.ext e19
  obtain ⟨dx9, qx9, hxx9, _⟩ := id x19
  have lz : ((List.replicate kk (0 : Int)).map V.int).length = kk := by simp
  -- the wide one
  refine ⟨_, rfl, _, rfl, xa, dx9, _, rfl, hxx9, xa, rx, rfl, x19, fun tc htc => cat_tup hE htc (by rw [lz, List.length_map]; omega) fun p1 H20 e20 hp1 => ⟨_, rfl, cat_tup hp1 (hE.ext e20) (by rw [List.length_append, lz, List.length_map]; omega) fun p2 H21 e21 hp2' => ?_⟩⟩
  have e2021 := e20.trans e21
  refine ⟨_, rfl, xa, dx9, _, rfl, e2021 _ _ hxx9, xa, rx, rfl, x19.ext e2021, _, rfl, E19, _, rfl, .inr (hE.ext e2021), _, _, rfl, rfl, rfl, rfl, mk_lauR (K := K) (t := p2) (lo := rx.1 - (((List.replicate kk (0 : Int)).map V.int).length : Nat)) (cs := List.replicate kk 0 ++ rx.2 ++ List.replicate kk 0) ?_ (by rw [lz]; omega) (by rw [lz]; omega) (by simp; omega) fun rw1 xw H22 e22 nw hw2 lw => ?_⟩
  · rw [List.map_append, List.map_append]
    exact hp2'
  rw [lz] at hw2
  have ew : rw1 = rx := nrm_unique nw nx fun k => by rw [hw2]; exact rat_pad rx.1 kk kk rx.2 k
  subst ew
  have c22 := e2021.trans e22
  have x22 := x19.ext c22
  have sup : ∀ k, rat rw1 k ≠ 0 → -400 ≤ k ∧ k ≤ 400 := fun k hk => by
    rw [hx] at hk
    have := pe.bd.1 k hk
    omega
  -- the tests of reading
  refine ⟨_, rfl, _, rfl, own_LL lw x22 ⟨_, rfl, iteN (ne_same rfl) ?_⟩⟩
  refine ⟨_, rfl, xa, dx9, _, rfl, c22 _ _ hxx9, xa, rw1, rfl, x22, onex.tb, fun H23 e23 => ⟨rw1, rfl, nx, onex.tb, sup, fun t8 H24 e24 l8 => ⟨_, rfl, own_LL l8 (x22.ext (e23.trans e24)) ⟨_, rfl, iteN (ne_same rfl) ?_⟩⟩⟩⟩
  refine ⟨rfl, (0, []), ?_, nrm_nil, tb_nil, fun k hk => absurd (rat_nil0 k) hk, fun t9 H25 e25 l9 => ⟨by show 1 ≤ sizeLine; decide, fun u hu => ⟨u, 800, [.int 0], rfl, rfl, SqT.of upd_same, by simp, by decide, by decide, by show 1 ≤ 1000; decide, fun z H26 e26 hz => ?_⟩⟩⟩
  · rw [txt_nil]
    rfl
  have hz' : SqT K H26 z ((List.replicate 800 (0 : Int)).map V.int) := by
    rw [← rep_zero]
    exact hz
  refine mk_lauR (K := K) (cs := List.replicate 800 0) hz' (by decide) (by decide) (by rw [List.length_replicate]; decide) fun r9 x9 H27 e27 y9 h9 q9 => own_LL (l9.ext (((Ext.upd hu).trans e26).trans e27)) q9 ⟨_, rfl, iteN (ne_same (rat_zero_nil y9 fun k => ?_).symm) ?_⟩
  · rw [h9]
    refine rat_zeros (fun i => ?_) k
    rw [List.getD_eq_getElem?_getD, List.getElem?_replicate]
    split <;> rfl
  have c27 := (((c22.trans e23).trans e24).trans e25).trans (((Ext.upd (o := .tup [.int 0]) hu).trans e26).trans e27)
  have o27 := o19.trans (Off.of c27)
  have w27 := w19.ext c27
  -- far
  refine nextI ?_
  refine seqP (fun σ H' => Off wl H H' ∧ ∃ (far : Int) (v6 v7 : Option V), -400 ≤ far ∧ far ≤ 400 ∧ σ = [some (.ref wl), some (.ref p), some (.ref q), some (.int n), some (.int m), some (.ref xa), v6, v7, some (.int far)]) ?_
    (fun hd => ⟨_, rfl, _, rfl, _, rfl, by show 6 ≤ sizeLine; decide, fun l hl => ⟨wl, l, _, rfl, w27.ext (Ext.upd hl), upd_same, w27.ne hl, by show 0 < 6; decide, by show 6 < 1000; decide, fun i x H28 o28 _ hx28 => ?_⟩⟩)
  rotate_left
  · obtain ⟨far, rfl, f1, f2⟩ := far_of hx28
    exact hd _ _ ⟨(o27.trans (Off.of (Ext.upd hl))).trans o28, far, _, _, f1, f2, rfl⟩
  rintro σ H28 ⟨o28, far, v6, v7, f1, f2, rfl⟩
  refine ⟨_, rfl, far, rfl, f1, f2, fun t10 H29 e29 l10 => fun d10 hd10 => ⟨_, rfl, upd_same, [(Sum.inl far, .int 1)], rfl, by show 1 ≤ 15; decide, ?_⟩⟩
  have e30 : Ext H29 (upd (upd H29 d10 (.dK [])) d10 (.dK (mergeK [] [(Sum.inl far, V.int 1)]))) := extPut (Ext.upd hd10) hd10
  refine ⟨t10, d10, [(far, 1)], (far, [1]), rfl, l10.ext e30, upd_same, one_single (by omega) (by omega), fun H31 e31 => ⟨true, rfl, iteN rfl ?_⟩⟩
  refine ⟨_, rfl, rfl, far, rfl, f1, f2, fun t11 H32 e32 l11 => pow_ok (n := 64) l11 ?_ (by decide) (by show 1 ≤ 1000; decide) fun r12 t12 H33 e33 y12 h12 l12 => fun d12 hd12 => ⟨_, rfl, _, _, rfl, rfl, .inl ⟨by decide, by decide⟩, upd_same, [(Sum.inl (64 * far), .int 1)], rfl, by show 1 ≤ 15; decide, ?_⟩⟩
  · intro c hc
    have hc' : c = 1 := List.mem_singleton.mp hc
    rw [hc']
    decide
  have e34 : Ext H33 (upd (upd H33 d12 (.dK [])) d12 (.dK (mergeK [] [(Sum.inl (64 * far), V.int 1)]))) := extPut (Ext.upd hd12) hd12
  have er12 : r12 = (64 * far, [1]) := row_single y12 fun k => (h12 k).trans (pw_single far 64 k)
  subst er12
  refine ⟨t12, d12, [(64 * far, 1)], (64 * far, [1]), rfl, l12.ext e34, upd_same, one_single (by omega) (by omega), fun H35 e35 => ⟨true, rfl, iteN rfl ?_⟩⟩
  have c35 := ((((e29.trans e30).trans e31).trans e32).trans e33).trans (e34.trans e35)
  -- the last one
  refine ⟨_, rfl, _, rfl, by show 3 ≤ sizeLine; decide, fun t13 ht13 => mk_lauR (K := K) (cs := [n, 0, 2]) (SqT.of upd_same) f1 f2 (by show 3 ≤ 800; decide) fun r14 x14 H36 e36 y14 h14 l14 => ?_⟩
  refine fun d1 hd1 => ⟨_, rfl, _, _, rfl, rfl, upd_same, [(Sum.inl (far + 2), .int 2)], rfl, by show 1 ≤ 15; decide, fun d2 hd2 => ⟨_, rfl, _, rfl, upd_same, [(Sum.inl far, .int n)], rfl, by show 1 ≤ 15; decide, ?_⟩⟩
  have e37 : Ext H36 (upd (upd H36 d1 (.dK [])) d1 (.dK (mergeK [] [(Sum.inl (far + 2), V.int 2)]))) := extPut (Ext.upd hd1) hd1
  have e38 : Ext (upd (upd H36 d1 (.dK [])) d1 (.dK (mergeK [] [(Sum.inl (far + 2), V.int 2)]))) (upd (upd (upd (upd H36 d1 (.dK [])) d1 (.dK (mergeK [] [(Sum.inl (far + 2), V.int 2)]))) d2 (.dK [])) d2 (.dK (mergeK [] [(Sum.inl far, V.int n)]))) := extPut (Ext.upd hd2) hd2
  refine ⟨d1, d2, 1, 0, [(far + 2, 2)], [(far, n)], rfl, e38 _ _ upd_same, upd_same, by unfold KN keys; simp, by decide, by decide, by show 1 + 1 ≤ 1000000; decide, fun g15 d15 H39 e39 _ hg15 ng15 hv15 _ => ?_⟩
  have e3739 := (e37.trans e38).trans e39
  refine ⟨x14, d15, g15, r14, rfl, l14.ext e3739, hg15, last_one ng15 y14 h14 hv15 f1 f2 n1 n2, fun H40 e40 => ?_⟩
  exact Qk H40 (o28.trans (Off.of ((((c35.upd' ht13).trans e36).trans e3739).trans e40)))
end
end Lau
end
section
/-! ## part E1 -/
set_option maxHeartbeats 4000000
namespace Lau
open PySem PySem.Spec PyProof.Rows L2
section
variable {P : Program} {w : World} {K : PySem.W.Frag} {mg : Str → Option Value} {base : Heap}
/-- law -/
def spLaw (K : PySem.W.Frag) : Sp := fun vs H Q _ => ∃ (a : Addr) (ns : List Int), vs = [.ref a] ∧ SqL K H a (ns.map V.int) ∧ ∀ H', Q (.bl true) H'
theorem scLaw : FnScope ["_law_script", "_law_turn"] ["_law_script"] (defScope (top 45)) := C8.fnScope_by (by decide +kernel)
theorem fn_law (T : Txt K mg) {f : Addr} {fd : FuncData} (F : FunD K "law" "law" (defArgs (top 45)) (defBody (top 45)) (defScope (top 45)) [] [] f fd) : FnG P w K mg base 11 f fd ["_law_script"] (spLaw K) := by
  refine fnG_of (k := 10) F scLaw (fun vs H Q E h => by obtain ⟨_, _, rfl, _⟩ := h; rfl) (fun cdv A outer s H vs Q hr hg h => ?_)
  refine ⟨_, pss_one (ps_ret (pe_callB (cr_all rfl) (by rfl) (T.free 1) (by decide +kernel) (pa_cons
    (pe_lc (own := [("_law_turn", 1)]) (g := gName 1) (tt := tYes) (te := tCall spRt [] E0 (tCons (tCall (spWell K) [] E0 (tCons (tVar 0) (tCons (tVar 1) tNil))) tNil)) rfl scLaw.nd
      (pi_range1 (by rfl) (T.free 12) (pa_cons (pe_callB (call_max2 rfl) (by rfl) (T.free 10) (by decide +kernel) (pa_cons pe_int (pa_cons (pe_callB (call_min2 rfl) (by rfl) (T.free 11) (by decide +kernel) (pa_cons (pe_callB call_len_seq (by rfl) (T.free 8) (by decide +kernel) (pa_cons (pv 0) pa_nil)) (pa_cons pe_int pa_nil))) pa_nil))) pa_nil)) (blkOk_by (N := ["_law_script", "_law_turn"]) (sc := defScope (top 45)) (by decide +kernel))
      (fun _ _ _ _ _ => pg_name (i := 1) scLaw.nd rfl (Or.inl rfl)) (fun _ _ _ _ _ => pts_nil) (fun _ _ _ _ _ => pe_g (cal_rt T) hr (by decide) hg (by rfl) (pa_cons (C8.pe_c (cal_well T) hr (by decide) (by rfl) (pa_cons (pv 0) (pa_cons (pv 1) pa_nil))) pa_nil))) pa_nil))), ?_⟩
  obtain ⟨a, ns, rfl, ha, Qk⟩ := h
  refine ⟨_, rfl, a, _, rfl, .inl ha, _, _, rfl, _, _, rfl, _, rfl, ?_, ?_, ?_⟩
  · split <;> (try split) <;> omega
  · split <;> (try split) <;> omega
  · generalize hn : (if (if (3 : Int) < ((ns.map V.int).length : Int) then (3 : Int) else ((ns.map V.int).length : Int)) > 2 then (if (3 : Int) < ((ns.map V.int).length : Int) then (3 : Int) else ((ns.map V.int).length : Int)) else (2 : Int)).toNat = n
    have hn3 : n ≤ 3 := by
      rw [← hn]
      split <;> (try split) <;> omega
    refine fun D hD => lc_range (lo := 0) (n := n) (fun k H' => Ext H H' ∧ H' D = some (.lst (List.replicate k (V.bl true)))) ⟨Ext.upd hD, upd_same⟩ (fun k H1 hk pv => ?_) (fun H1 pv => ?_)
    · obtain ⟨e1, hDk⟩ := pv
      refine ⟨rfl, ?_⟩
      unfold tYes
      dsimp only
      rw [if_pos rfl]
      refine ⟨_, rfl, _, rfl, a, k, ns, congrArg (fun z => [V.ref a, V.int z]) (by omega), ha.ext e1, fun wl H2 e2 hw2 w2 => ⟨wl, rfl, w2, fun H3 o3 => ?_⟩⟩
      have e3 : Ext H1 H3 := fun b o q => o3 b o (ne_of_none q hw2) (e2 b o q)
      refine ⟨_, e3 _ _ hDk, by rw [List.length_replicate, sizeLine_eq]; omega, extPut (e1.trans e3) hD, ?_⟩
      rw [upd_same, List.replicate_succ']
    · obtain ⟨e1, hDk⟩ := pv
      refine ⟨D, List.replicate n true, rfl, SqL.of (by rw [hDk]; simp), ?_⟩
      have hall : (List.replicate n true).all id = true := by simp
      rw [hall]
      exact Qk H1
end
end Lau
end
section
/-! ## part E2 -/
set_option maxHeartbeats 4000000
namespace Lau
open PySem PySem.Spec PyProof.Rows L2
section
variable {P : Program} {w : World} {K : PySem.W.Frag} {mg mb : Str → Option Value} {k : Nat} {fa a : Addr} {fd : FuncData} {x : Str} {sp : Sp} {st : Shared} {vs : List Value} {ns : List Int}
/-- the law's def called from outside, over one tracked heap: at most the script is tracked -/
theorem callG_core (H : Hp) (G : FnG P w K mg (hidT st.heap H) k fa fd [x] sp) (KX : K.In st.heap) (hns : st.heap.Ns mainGlobals mg) (hb : st.heap.Ns builtinsNs mb)
    (hbb : ∀ x : Str, x ≠ "__name__" → mb x = bootBuiltins x) (hlim : st.heap.NoLimit) (hg : st.gens = #[]) (hr : Room k callerA)
    (seq : ∀ b o es ep, st.heap.get? b = some o → o.data = .dict es ep → H b = none) (off : ∀ b o, K.lookup b = some o → H b = none)
    (frz : ∀ b u, H b = some u → ∃ ob xs, u = .frz ob (.lst xs)) (hok : HOk P w H st.heap)
    (hbind : ∀ (s : Shared) (u : Value), BindsTo s fd ⟨[u], []⟩ [(x, u)]) (hsp : sp [.ref a] H (fun v _ => v = .bl true) E0) :
    codeAny (model P w) callerA (.call (.ref fa) ⟨[.ref a], []⟩) (fun r s' => r = .ok (.ret (.bool true)) ∧ OldK st.heap s'.heap ∧ s'.os = st.os ∧ AllBare s'.gens) st := by
  have up : ∀ {b : Addr} {m : Str → Option Value}, st.heap.Ns b m → (hidT st.heap H).Ns b m := by
    rintro b m ⟨o, es, ep, e1, e2, rest⟩
    exact ⟨o, es, ep, hidT_get e1 (seq b o es ep e1 e2), e2, rest⟩
  have kin : K.In (hidT st.heap H) := fun b o e => hidT_get (KX b o e) (off b o e)
  have md : Mod K mg (hidT st.heap H) := by
    obtain ⟨mc, q1, q2⟩ := hlim
    exact ⟨kin, up hns, ⟨mb, up hb, hbb⟩, ⟨mc, up q1, q2⟩⟩
  have none_in : ∀ b : Addr, b ∉ ([] : List Addr) := fun b => by simp
  have env : Env0 P w K mg (hidT st.heap H) callerA [] st H := by
    refine ⟨rfl, md, fun b o e => of_hidT e, ?_, trivial, fun b hm => absurd hm (none_in b), hok, .of_eq hg⟩
    rw [hidT_size]
    exact Nat.le_refl _
  have run := G.run callerA [] st H ⟨[.ref a], []⟩ [.ref a] [.ref a] _ hr rfl env (hbind st (.ref a)) (.cons rfl .nil) hsp
  refine codeAny_mono run fun r s' hq => ?_
  rcases r with e | fl
  · exact False.elim hq
  · rcases fl with _ | _ | _ | u
    · exact False.elim hq
    · exact False.elim hq
    · exact False.elim hq
    · obtain ⟨v, H', hos, hbare, hun, hok', hrel, hv⟩ := hq
      have ev : v = .bl true := hv
      subst ev
      have eu : u = Value.bool true := hrel
      subst eu
      refine ⟨rfl, OldK.of_keep fun b o hbo => ?_, hos, hbare⟩
      rcases hH : H b with _ | u
      · exact hun.keep b o hbo hH (none_in b) (by simp)
      · obtain ⟨ob, xs, rfl⟩ := frz b u hH
        have k1 := (hok b _ hH).1
        have k2 := (hok' b _ (hun.frzs b ob _ hH)).1
        rw [hbo] at k1
        cases k1
        exact k2
theorem callG (G : ∀ bs : Heap, K.In bs → bs.Ns mainGlobals mg → FnG P w K mg bs k fa fd [x] sp) (KX : K.In st.heap) (hns : st.heap.Ns mainGlobals mg) (hb : st.heap.Ns builtinsNs mb)
    (hbb : ∀ x : Str, x ≠ "__name__" → mb x = bootBuiltins x) (hlim : st.heap.NoLimit) (hg : st.gens = #[]) (hr : Room k callerA)
    (ha : st.heap.get? a = some { cls := .type "list", data := .seq vs.toArray }) (hi : IntsAre vs ns) (hl : ns.length ≤ sizeLine)
    (hbind : ∀ (s : Shared) (u : Value), BindsTo s fd ⟨[u], []⟩ [(x, u)]) (hsp : ∀ H : Hp, SqL K H a (ns.map V.int) → sp [.ref a] H (fun v _ => v = .bl true) E0) :
    codeAny (model P w) callerA (.call (.ref fa) ⟨[.ref a], []⟩) (fun r s' => r = .ok (.ret (.bool true)) ∧ OldK st.heap s'.heap ∧ s'.os = st.os ∧ AllBare s'.gens) st := by
  have hvs := vals_ints hi
  have hlen := hi.length
  have base : ∀ H : Hp, (∀ b o es ep, st.heap.get? b = some o → o.data = .dict es ep → H b = none) → (∀ b o, K.lookup b = some o → H b = none) → FnG P w K mg (hidT st.heap H) k fa fd [x] sp := fun H h1 h2 => by
    refine G _ (fun b o e => hidT_get (KX b o e) (h2 b o e)) ?_
    obtain ⟨o, es, ep, e1, e2, rest⟩ := hns
    exact ⟨o, es, ep, hidT_get e1 (h1 _ o es ep e1 e2), e2, rest⟩
  rcases hk : K.lookup a with _ | ob
  · -- the script is no object of the module: tracked, frozen
    have h1 : ∀ b o es ep, st.heap.get? b = some o → o.data = .dict es ep → (if b = a then some (HO.frz { cls := .type "list", data := .seq vs.toArray } (.lst (ns.map V.int))) else none) = none := fun b o es ep e d => by
      by_cases q : b = a
      · subst q
        rw [ha] at e
        cases e
        cases d
      · exact if_neg q
    have h2 : ∀ b o, K.lookup b = some o → (if b = a then some (HO.frz { cls := .type "list", data := .seq vs.toArray } (.lst (ns.map V.int))) else none) = none := fun b o e => by
      by_cases q : b = a
      · subst q
        rw [hk] at e
        cases e
      · exact if_neg q
    refine callG_core (fun b => if b = a then some (.frz { cls := .type "list", data := .seq vs.toArray } (.lst (ns.map V.int))) else none) (base _ h1 h2) KX hns hb hbb hlim hg hr h1 h2 (fun b u z => ?_) (fun b u z => ?_) hbind (hsp _ ?_)
    · by_cases q : b = a
      · have z' := (if_pos q).symm.trans z
        cases z'
        exact ⟨_, _, rfl⟩
      · cases (if_neg q).symm.trans z
    · by_cases q : b = a
      · have z' := (if_pos q).symm.trans z
        cases z'
        subst q
        refine ⟨ha, ?_, vs, _, hvs, ha⟩
        rw [List.length_map]
        exact hl
      · cases (if_neg q).symm.trans z
    · exact Or.inl (Or.inr ⟨_, if_pos rfl⟩)
  · have e := KX a ob hk
    rw [ha] at e
    cases e
    refine callG_core (fun _ => none) (base _ (fun _ _ _ _ _ _ => rfl) fun _ _ _ => rfl) KX hns hb hbb hlim hg hr (fun _ _ _ _ _ _ => rfl) (fun _ _ _ => rfl) (fun b u z => nomatch z) (fun b u z => nomatch z) hbind (hsp _ (Or.inr ⟨_, vs.toArray, _, hk, rfl, rfl, rfl, ?_, ?_⟩))
    · rw [List.size_toArray, hlen]
      exact hl
    · simpa using hvs
end
end Lau
end
section
/-! ## part E3 -/
set_option maxHeartbeats 0
namespace Lau
open PySem PySem.Spec PyProof.Rows L2
theorem facts {P : Program} {w : World} {K : PySem.W.Frag} {h : Heap} {mg : Str → Option Value} {f : Addr} (X : K.In h) (G : h.Ns mainGlobals mg) (hfa : mg ("law" : Str) = some (.ref f)) (c : SaysL fnA K) :
    ∃ fd : FuncData, (∀ (s : Shared) (u : Value), BindsTo s fd ⟨[u], []⟩ [("_law_script", u)]) ∧ ∀ bs : Heap, K.In bs → bs.Ns mainGlobals mg → FnG P w K mg bs 11 f fd ["_law_script"] (spLaw K) := by
  have T : Txt K mg := ⟨c, h, X, G⟩
  obtain ⟨f', fd, F, g⟩ := T.fn 33 (x := "law") (i := 45) rfl rfl
  have e := hfa.symm.trans g
  cases e
  have b := FunD.bindsA (ps := ["_law_script"]) F fun _ _ _ _ _ _ us hl => match us, hl with | [_], _ => rfl
  exact ⟨fd, fun s v => b s [v] rfl, fun bs h1 h2 => fn_law ⟨c, bs, h1, h2⟩ F⟩
end Lau
open PySem PySem.W PySem.Calls PyProof.Rows
theorem PySem.Challenge.cw_wallwalks_k55_whole_laurents_holds : PySem.Challenge.rw_wallwalks_k55_whole_laurents.Holds := by
  w_on; o_law
  refine HandSHeadRun.head_any (r := OpenLaw.row PySem.Challenge.rw_wallwalks_k55_whole_laurents) (q := view (OpenLaw.row PySem.Challenge.rw_wallwalks_k55_whole_laurents).prog [45]) (H := Lau.hkL) (ob := Lau.obL) (M := 4000) (loose := Lau.looseN) (d := HandSHeadRun.topDef (OpenLaw.row PySem.Challenge.rw_wallwalks_k55_whole_laurents).prog 45) (kwd := []) Lau.obL_eq
    (by kernel_rfl) (fun s => by kernel_rfl) Lau.runL (by kernel_rfl) (by kernel_rfl) (by kernel_rfl) (by rfl) (by first | assumption | decide +kernel) (by decide +kernel) ⟨rfl, rfl, rfl, rfl, rfl, by decide +kernel⟩ ?hw ?hc
  case hw => w_witness2
  case hc =>
    refine Att.attach_call (l := PySem.Challenge.rw_wallwalks_k55_whole_laurents) (n := 63) rfl (by kernel_rfl) fun w s₀ s₁ mg mb fa o pm cd doc a vs ns G Y ho hd hcd hmg0 hobj hints hlen hg => ?_
    obtain ⟨K, KX, c⟩ := Y
    have hmg : mg ("law" : PySem.Str) = some (.ref fa) := by
      have e : (HandSHeadRun.topDef (OpenLaw.row PySem.Challenge.rw_wallwalks_k55_whole_laurents).prog 45).name = ("law" : PySem.Str) := by kernel_rfl
      rw [← e]
      exact hmg0
    obtain ⟨fd, hb, hF⟩ := Lau.facts (P := (PySem.Challenge.rw_wallwalks_k55_whole_laurents).prog) (w := w) KX G.T.g hmg c
    exact Lau.callG hF KX G.T.g G.T.b G.T.builtins G.T.nolimit hg ⟨rfl, by decide, by decide⟩ hobj hints (Nat.le_trans hlen (by decide)) hb fun H hS => ⟨a, ns, rfl, hS, fun _ => rfl⟩
end
