import PyProof.Rows.All
import KE.IntTextLaws
import Wide.All
import OpenK.AllK
import Wide.FinOn
import KE.KExcSuper
import HandS.Base
import HandS.Call
import HandS.List
import HandS.Exc
import HandS.ExcOwn
import HandS.ExcField
import HandS.ExcIs
import HandS.HeadHook1
import PyProof.Rows.RuleN_isinstance
import HandS.IsInst
import HandS.ForMost
import HandS.ForExc
import HandS.Defaults
import HandS.TupAny
import HandS.Style
import HandS.Flow
import HandS.More
import HandS.Sort
import HandS.Codes
import HandS.CallSlots
import HandS.HeadHook2
import PySem.Challenge.RW_sumsworn_k77_texts_that_are_none
import PyProof.NeKinds
import PyProof.StrBlock2
import PyProof.Rows.ReprOcc
import PyProof.Rows.StrJoinMade
import HandS.Head0
import HandS.Head1
import HandS.Head2
import HandS.HeadEnd
import KE.KStateDown
set_option Elab.async false
set_option linter.all false
set_option maxRecDepth 100000
set_option maxHeartbeats 0
/-! The mathematics of k77: words of a text, and a reader of them. -/
namespace K77
abbrev Wd := List Nat
def isSp (c : Nat) : Bool := c == 32 || c == 10
def lowers : List Nat := [97, 98, 99, 100, 101, 102, 103, 104, 105, 106, 107, 108, 109, 110, 111, 112, 113, 114, 115, 116, 117, 118, 119, 120, 121, 122]
def digs : List Nat := [48, 49, 50, 51, 52, 53, 54, 55, 56, 57]
def isRun (c : Nat) : Bool := decide (c ∈ lowers) || decide (c ∈ digs)
def runEnd (t : List Nat) (e : Nat) : Nat := e + ((t.drop e).takeWhile isRun).length
theorem runEnd_ge (t : List Nat) (e : Nat) : e ≤ runEnd t e := Nat.le_add_right _ _
theorem runEnd_le {t : List Nat} {e : Nat} (h : e ≤ t.length) : runEnd t e ≤ t.length := by
  unfold runEnd
  have h1 : ((t.drop e).takeWhile isRun).length ≤ (t.drop e).length := (List.takeWhile_sublist _).length_le
  rw [List.length_drop] at h1
  omega
theorem runEnd_stop {t : List Nat} {e : Nat} (h : ∀ c, t[e]? = some c → isRun c = false) : runEnd t e = e := by
  unfold runEnd
  cases hd : t.drop e with
  | nil => rfl
  | cons c r =>
    have hc : t[e]? = some c := by rw [← List.head?_drop, hd]; rfl
    rw [List.takeWhile_cons, h c hc]
    rfl
theorem runEnd_go {t : List Nat} {e : Nat} {c : Nat} (h : t[e]? = some c) (hr : isRun c = true) : runEnd t e = runEnd t (e + 1) := by
  unfold runEnd
  have hd : t.drop e = c :: t.drop (e + 1) := by
    obtain ⟨hl, he⟩ := List.getElem?_eq_some_iff.mp h
    rw [List.drop_eq_getElem_cons hl, he]
  rw [hd, List.takeWhile_cons, if_pos hr, List.length_cons]
  omega
/-- the end of the word that begins at a place -/
def tokEnd (t : List Nat) (i : Nat) : Nat := if isRun (t.getD i 0) then runEnd t (i + 1) else i + 1
theorem tokEnd_gt (t : List Nat) (i : Nat) : i < tokEnd t i := by
  unfold tokEnd
  split
  · exact Nat.lt_of_lt_of_le (Nat.lt_succ_self _) (runEnd_ge _ _)
  · exact Nat.lt_succ_self _
theorem tokEnd_le {t : List Nat} {i : Nat} (h : i < t.length) : tokEnd t i ≤ t.length := by
  unfold tokEnd
  split
  · exact runEnd_le h
  · exact h
def cut (t : List Nat) (i j : Nat) : List Nat := (t.drop i).take (j - i)
/-- the words of a text from a place on, with their places -/
def toks (t : List Nat) (i : Nat) : List (Wd × Nat) :=
  if h : i < t.length then (if isSp (t.getD i 0) then [] else [(cut t i (tokEnd t i), i)]) ++ toks t (tokEnd t i) else []
termination_by t.length - i
decreasing_by have := tokEnd_gt t i; omega
theorem toks_end {t : List Nat} {i : Nat} (h : t.length ≤ i) : toks t i = [] := by
  rw [toks, dif_neg (Nat.not_lt.mpr h)]
theorem toks_step {t : List Nat} {i : Nat} (h : i < t.length) : toks t i = (if isSp (t.getD i 0) then [] else [(cut t i (tokEnd t i), i)]) ++ toks t (tokEnd t i) := by
  conv => lhs; rw [toks]
  rw [dif_pos h]
/-- how many words are a semicolon, from an index on -/
def semis (ws : List (Wd × Nat)) : Nat := (ws.filter fun p => decide (p.1 = [59])).length
theorem semis_app (a b : List (Wd × Nat)) : semis (a ++ b) = semis a + semis b := by
  unfold semis
  rw [List.filter_append, List.length_append]
theorem cut_count (t : List Nat) (i j : Nat) (h : i ≤ j) : (t.drop i).count 59 = (cut t i j).count 59 + (t.drop j).count 59 := by
  unfold cut
  have e : t.drop i = (t.drop i).take (j - i) ++ t.drop j := by
    have := (List.take_append_drop (j - i) (t.drop i)).symm
    rw [List.drop_drop, show i + (j - i) = j by omega] at this
    exact this
  conv => lhs; rw [e]
  rw [List.count_append]
theorem semis_one (w : Wd) (p : Nat) : semis [(w, p)] ≤ w.count 59 := by
  unfold semis
  by_cases h : w = [59]
  · subst h
    simp
  · simp [h]
theorem semis_toks (t : List Nat) (i : Nat) : semis (toks t i) ≤ (t.drop i).count 59 := by
  by_cases h : i < t.length
  · rw [toks_step h, semis_app, cut_count t i (tokEnd t i) (Nat.le_of_lt (tokEnd_gt t i))]
    have ih := semis_toks t (tokEnd t i)
    have := semis_one (cut t i (tokEnd t i)) i
    split
    · simp [semis] at *
      omega
    · omega
  · rw [toks_end (Nat.not_lt.mp h)]
    simp [semis]
termination_by t.length - i
decreasing_by have := tokEnd_gt t i; omega

/-! ### the reader -/
open PySem.NumText (digitsVal AllDigits)
def val (w : Wd) : Int := ((digitsVal w : Nat) : Int)
def isNum (w : Wd) : Bool := decide (1 ≤ w.length) && decide (w.length ≤ 30) && w.all (fun c => decide (c ∈ digs)) && (decide (w = [48]) || decide (w.head? ≠ some 48))
theorem val_nonneg (w : Wd) : 0 ≤ val w := Int.natCast_nonneg _
theorem digs_iff (c : Nat) : c ∈ digs ↔ 48 ≤ c ∧ c ≤ 57 := by
  unfold digs
  simp only [List.mem_cons, List.not_mem_nil, or_false]
  omega
theorem isNum_digits {w : Wd} (h : isNum w = true) : AllDigits w ∧ w ≠ [] ∧ w.length ≤ 30 := by
  unfold isNum at h
  simp only [Bool.and_eq_true, decide_eq_true_eq] at h
  obtain ⟨⟨⟨h1, h2⟩, h3⟩, _⟩ := h
  refine ⟨fun c hc => ?_, fun e => ?_, h2⟩
  · have := List.all_eq_true.mp h3 c hc
    exact (digs_iff c).mp (of_decide_eq_true this)
  · rw [e] at h1
    exact absurd h1 (by decide)
theorem fold_ge : ∀ (l : List Nat) (a : Nat), a ≤ l.foldl (fun acc c => acc * 10 + (c - 48)) a
  | [], a => Nat.le_refl a
  | c :: r, a => by
    rw [List.foldl_cons]
    exact Nat.le_trans (by omega) (fold_ge r _)
theorem isNum_pos {w : Wd} (h : isNum w = true) : (w = [48] ∧ val w = 0) ∨ (w ≠ [48] ∧ 1 ≤ val w) := by
  have hd := isNum_digits h
  by_cases e : w = [48]
  · left
    subst e
    exact ⟨rfl, rfl⟩
  · right
    refine ⟨e, ?_⟩
    unfold isNum at h
    simp only [Bool.and_eq_true, Bool.or_eq_true, decide_eq_true_eq] at h
    obtain ⟨_, h4⟩ := h
    have h5 := h4.resolve_left e
    cases w with
    | nil => exact absurd rfl hd.2.1
    | cons c r =>
      have hc := hd.1 c (List.mem_cons_self ..)
      have c48 : c ≠ 48 := fun z => h5 (by rw [z]; rfl)
      have : 1 ≤ digitsVal (c :: r) := by
        show 1 ≤ (c :: r).foldl _ 0
        rw [List.foldl_cons]
        exact Nat.le_trans (by omega) (fold_ge r _)
      unfold val
      omega
section
variable (ws : List (Wd × Nat)) (n : Nat)
def wAt (i : Nat) : Wd := match ws[i]? with
  | some p => p.1
  | none => []
def pAt (i : Nat) : Nat := match ws[i]? with
  | some p => p.2
  | none => n
abbrev Rd (α : Type) := Except Nat (α × Nat)
abbrev Most : Int := 1000000
def mNum (lo hi : Int) (i : Nat) : Rd Int :=
  if isNum (wAt ws i) = true ∧ lo ≤ val (wAt ws i) ∧ val (wAt ws i) ≤ hi then .ok (val (wAt ws i), i + 1) else .error (pAt ws n i)
def rb {α β : Type} (m : Rd β) (f : β → Nat → Rd α) : Rd α := match m with
  | .ok (v, j) => f v j
  | .error p => .error p
def mNumber (i : Nat) : Rd Int :=
  if wAt ws i = [45] then rb (mNum ws n 1 Most (i + 1)) fun v j => .ok (0 - v, j) else mNum ws n 0 Most i
def isVar (w : Wd) (lo hi : Int) : Bool := decide (w.head? = some 120) && isNum w.tail && decide (lo ≤ val w.tail) && decide (val w.tail ≤ hi)
def mVar (lo hi : Int) (i : Nat) : Rd Int := if isVar (wAt ws i) lo hi = true then .ok (val (wAt ws i).tail, i + 1) else .error (pAt ws n i)
def mLit (lo hi : Int) (i : Nat) : Rd Int :=
  if wAt ws i = [126] then rb (mVar ws n lo hi (i + 1)) fun v j => .ok (2 * v + 1, j) else rb (mVar ws n lo hi i) fun v j => .ok (2 * v, j)
abbrev Tm := List (Int × Int)
def lastLit (acc : Tm) : Int := match acc.getLast? with
  | some p => p.1
  | none => 0
/-- one term whose variable is at least lo -/
def mTerm (lo last : Int) (i : Nat) : Rd (Int × Int) := rb (mNum ws n 1 Most i) fun w j => rb (mLit ws n lo last j) fun l k => .ok ((l, w), k)
def mLoop : Nat → Int → Tm → Nat → Rd Tm
  | 0, _, acc, i => .ok (acc, i)
  | f + 1, last, acc, i => if wAt ws i = [43] then rb (mTerm ws n (lastLit acc / 2 + 1) last (i + 1)) fun q k => mLoop f last (acc ++ [q]) k else .ok (acc, i)
def mTerms (last : Int) (i : Nat) : Rd Tm :=
  if wAt ws i = [48] then .ok ([], i + 1) else rb (mTerm ws n 0 last i) fun q k => mLoop ws n ws.length last [q] k
def mMark (s : Wd) (i : Nat) : Rd Unit := if wAt ws i = s then .ok ((), i + 1) else .error (pAt ws n i)
def mSum (last : Int) (i : Nat) : Rd (Tm × Int) := rb (mTerms ws n last i) fun t j => rb (mMark ws n [62] j) fun _ k => rb (mMark ws n [61] k) fun _ l => rb (mNumber ws n l) fun v m => .ok ((t, v), m)
def sFrom : Wd := [102, 114, 111, 109]
def sPrice : Wd := [112, 114, 105, 99, 101]
def sProblem : Wd := [112, 114, 111, 98, 108, 101, 109]
def mPrice (last : Int) (i : Nat) : Rd (Tm × Int) := rb (mTerms ws n last i) fun t j => rb (mMark ws n sFrom j) fun _ k => rb (mNumber ws n k) fun v m => .ok ((t, v), m)
def mSums : Nat → Int → List (Tm × Int) → Nat → Rd (List (Tm × Int))
  | 0, _, acc, i => .ok (acc, i)
  | f + 1, last, acc, i => if wAt ws i = [59] then rb (mSum ws n last (i + 1)) fun q k => mSums f last (acc ++ [q]) k else .ok (acc, i)
abbrev Pb := Int × List (Tm × Int) × Option (Tm × Int)
def mRestR (many : Int) (price : Option (Tm × Int)) (i : Nat) : Rd Pb :=
  rb (mSums ws n ws.length (many - 1) [] i) fun sums j => if j < ws.length then .error (pAt ws n j) else .ok ((many, sums, price), j)
def mProbR : Rd Pb := rb (mMark ws n sProblem 0) fun _ i => rb (mNum ws n 1 60 i) fun many j =>
  if wAt ws j = sPrice then rb (mPrice ws n (many - 1) (j + 1)) fun q k => mRestR ws n many (some q) k else mRestR ws n many none j
end
end K77
/-! An error class of the program whose __init__ says super().__init__(text) and keeps one field: made, raised, its field read. -/
namespace PySem
namespace BTX
open PySem.W PySem.Calls PyProof.Rows PySem.HandSPX
def iA : Arguments := { posonlyargs := [], args := [{ arg := "self", annotation := none, pos := ⟨6, 17, 6, 21⟩ }, { arg := "place", annotation := none, pos := ⟨6, 23, 6, 28⟩ }], vararg := none, kwonlyargs := [], kw_defaults := [], kwarg := none, defaults := [] }
def iB : List Stmt :=
  [.Expr (.Call (.Attribute (.Call (.Name "super" ⟨7, 8, 7, 13⟩) [] [] ⟨7, 8, 7, 15⟩) "__init__" ⟨7, 8, 7, 24⟩) [.Constant (.str "the text cannot be read") 0 ⟨7, 25, 7, 50⟩] [] ⟨7, 8, 7, 51⟩) ⟨7, 8, 7, 51⟩,
   .Assign [.Attribute (.Name "self" ⟨8, 8, 8, 12⟩) "place" ⟨8, 8, 8, 18⟩] (.Name "place" ⟨8, 21, 8, 26⟩) ⟨8, 8, 8, 26⟩]
def bScope : Scope := { kind := .function, names := [(PySem.Str.ofString "self", .local), (PySem.Str.ofString "place", .local), (PySem.Str.ofString "__class__", .free), (PySem.Str.ofString "super", .globalImplicit)], isGenerator := false, isCoroutine := false, more := [] }
theorem b_cell : ∀ y ∈ bScope.names, y.2 ≠ .cell := by decide +kernel
theorem b_self : List.lookup (PySem.Str.ofString "self") bScope.names = some NameKind.local := by decide +kernel
theorem b_place : List.lookup (PySem.Str.ofString "place") bScope.names = some NameKind.local := by decide +kernel
/-- what the written part says of the class at C and of its __init__ at fI -/
structure BtTxt (prog : Program) (K : Frag) (mg : Str → Option Value) (C fI : Addr) : Prop where
  gC : mg "BadText" = some (.ref C)
  noS : mg "super" = none
  top : (prog.main.scope.names.lookup ("super" : Str)).isSome = false
  tp : nsIn K cStatics "thirdparty.any" = some none
  cls : ∃ nm q N bs bm sn sub ab col dd k0 k1 k2 k3 k5, K.lookup C = some (excClassObj nm q C N bs bm true sn sub ab col dd k0 k1 k2 k3 k5 "ValueError.__new__") ∧ refsVE bm = true ∧ alongIn K "__init__" bm = some (some (.builtin "ValueError.__init__"))
  sa : findIn K (.ref C) "__setattr__" = some (some (.builtin "object.__setattr__"))
  ga : findIn K (.ref C) "__getattribute__" = some (some (.builtin "BaseException.__getattribute__"))
  gg : findIn K (.ref C) "__getattr__" = some none
  noN : findIn K (.ref C) "place" = some none
  iC : findIn K (.ref C) "__init__" = some (some (.ref fI))
  tC : typeIn K (.ref fI) = some (.type "function")
  kC : keepIn K (.ref C) = true
  exC : subIn K (.ref C) (.type "BaseException") = some true
  veC : subIn K (.ref C) (.type "ValueError") = some true
  tyC : typeIn K (.ref C) = some (.type "type")
  hdC : hasDictIn K C = true
  te : exmOne K (.ref C) (.ref C) = some true
  fn : ∃ (oc : Value) (od : Option Addr) (kV doc pm : Value) (an : Option Addr) (cda cc : Addr) (ct : Value) (osl : Array (Option Value)),
    K.lookup fI = some ⟨oc, od, .func (fnX "__init__" "BadText.__init__" iA iB bScope [("__class__", cc)] .none kV doc pm an (.ref cda) ct), osl⟩ ∧ codeIn K (.ref cda) "BadText.__init__" = true ∧
    (∃ cl od' sl, K.lookup cc = some ⟨cl, od', .cell (some (.ref C)), sl⟩) ∧
    (∃ cl od' vs sl file tf, K.lookup cda = some ⟨cl, od', .fields vs, sl⟩ ∧ vs[2]? = some (.str file tf) ∧ ((prog.main.file : Str) == file) = true)
theorem one_size (v : Value) : [v].length ≤ sizeLine := by
  rw [sizeLine_eq]
  exact (by decide : 1 ≤ 16777216)
theorem ldC {M : Model} {s : Shared} {name : Str} {scope : Scope} {L a : Addr} {cd : Value} {cl : List (Str × Addr)} {m : Str → Option Value} {x : Str} {pos : Pos} {v : Value} {Q : Value → Shared → Prop} {A : Around} {E : Value → Shared → Prop} (hn : s.heap.Ns L m) (hv : m x = some v) (h : Q v s)
    (hk : scope.kind = .function := by rfl) (hl : (envX name scope L a cd cl).kindOf x = some .local := by rfl) (hd : (x == ("__debug__" : Str)) = false := by decide) :
    wpAny M A (eval (.Name x pos) (envX name scope L a cd cl)) Q E s := wpAny_Name (wpAny_loadName_local hk hl hn hv h) hd
/-- what __init__ leaves of a fresh exception at x -/
structure InitEnd (h h' : Heap) (x C dx t1 : Addr) (v : Value) : Prop where
  keep : ∀ b o, b ≠ x → h.get? b = some o → h'.get? b = some o
  obj : h'.get? x = some { cls := .ref C, dict := some dx, data := .fields #[.ref t1, .none, .none, .none, .bool false, .none] }
  dbig : h.objs.size ≤ dx
  dne : dx ≠ x
  ns : h'.Ns1 dx (fun y => if y = "place" then some v else none)
structure OwnMade (h h' : Heap) (e C d : Addr) (v : Value) : Prop where
  keep : ∀ b o, h.get? b = some o → h'.get? b = some o
  new : h.objs.size ≤ e
  obj : ∃ oe vs, h'.get? e = some oe ∧ oe.cls = .ref C ∧ oe.dict = some d ∧ oe.data = .fields vs ∧ vs[1]? = some .none
  dbig : h.objs.size ≤ d
  dne : d ≠ e
  ns : h'.Ns1 d (fun y => if y = "place" then some v else none)
section
variable {prog : Program} {w : World} {A : Around} {E : Value → Shared → Prop} {h : Heap} {g : Array GenState} {d : Drawn} {t : Nat} {os : OsState}
/-- the wrapper called: the args are laid anew -/
theorem call_mw {nm q : Str} {C N : Addr} {bs bm : List Value} {hdct : Bool} {sn : List Str} {sub : List Value} {ab : Bool} {col : Option Bool} {dd : Option Addr} {k0 k1 k2 k3 k5 : Option Value}
    {u e t0 : Addr} {rest : List Value} {Q : Value → Shared → Prop}
    (hC : h.get? C = some (excClassObj nm q C N bs bm hdct sn sub ab col dd k0 k1 k2 k3 k5 "ValueError.__new__")) (he : h.get? e = some (excO C t0)) (hu : h.get? u = some (kxs_mw "ValueError.__init__" e)) (hrest : rest.length ≤ sizeLine)
    (hq : ∀ h' t1, (∀ b o, b ≠ e → h.get? b = some o → h'.get? b = some o) → h.objs.size ≤ h'.objs.size → h'.get? e = some (excO C t1) → Q .none ⟨h', g, d, t, os⟩) :
    wpAny (model prog w) A (call (.ref u) rest) Q E ⟨h, g, d, t, os⟩ := by
  refine wpAny_call (codeAny_of_tree ?_)
  show wpAny _ A.in1 (callAny (.ref u) ⟨rest, []⟩) _ _ _
  simp only [callAny]
  refine wpAny_bind (wpAny_load hu ?_)
  simp only [kxs_mw, show (Value.type "method-wrapper" == Value.type "method" || Value.type "method-wrapper" == Value.type "builtin_function_or_method" || Value.type "method-wrapper" == Value.type "method-wrapper") = true by decide, if_true]
  refine KFB.if_so (by decide) ?_
  refine wpAny_bind (check_bound_init F.excBase_ValueError.toExcCallFacts hC he rfl ?_)
  refine wpAny_bind (wpAny_pure (wpAny_pure ?_))
  refine ⟨plainId_quiet F.excBase_ValueError.init.plain _, codeAny_builtin F.excBase_ValueError.initEntry ?_⟩
  refine exc_init_tree (cls := .ref C) (t0 := t0) (dv := none) (c2 := .none) (c3 := .none) (b4 := .bool false) he hrest fun h' k e' t' => ?_
  refine hq h' h.objs.size k ?_ e'
  exact Nat.le_of_lt (Heap.lt_size t')
end
section
variable {prog : Program} {w : World} {A : Around} {R : Result → Shared → Prop} {s : Shared} {K : Frag} {mg mb : Str → Option Value} {C fI : Addr}
theorem bt_init (T : BtTxt prog K mg C fI) {x t0 : Addr} {v : Value} (X : K.In s.heap) (hlim : s.heap.NoLimit) (hg : s.heap.Ns mainGlobals mg) (hb : s.heap.Ns builtinsNs mb) (hb2 : mb "super" = some (.type "super"))
    (hx : s.heap.get? x = some (excO C t0)) (hnx : K.lookup x = none) (hroom : A.depth < recursionLimit)
    (hq : ∀ h' tk dx t1, InitEnd s.heap h' x C dx t1 v → R (.ok (.ret .none)) { s with heap := h', toks := tk }) :
    codeAny (model prog w) A (.call (.ref fI) ⟨[.ref x, v], []⟩) R s := by
  obtain ⟨oc, od, kV, doc, pm, an, cda, cc, ct, osl, ho, hcd, ⟨ccl, cod, csl, hcc⟩, ⟨dcl, dod, dvs, dsl, file, tf, hco, hvs, hfile⟩⟩ := T.fn
  obtain ⟨nm, q, N, bs, bm, sn, sub, ab, col, dd, k0, k1, k2, k3, k5, hC, hbm, hal⟩ := T.cls
  have hcl : clsIn K C = some { name := nm, bases := bs, mro := .ref C :: bm, ns := N, qualname := q, hasDict := true, slotNames := sn, subclasses := sub, abstract := ab, collection := col, hasDel := false } := by unfold clsIn; rw [hC] <;> rfl
  refine ks_codeAny_call_defAt (binds := [("self", .ref x), ("place", v)]) hroom (X _ _ ho) rfl hlim (codeRec_of X hcd) rfl (BindsTo.of_eq (by first | rfl | with_unfolding_all rfl)) b_cell (fun y hy => by
    rcases List.mem_cons.mp hy with rfl | hy
    · exact b_self
    · rcases List.mem_cons.mp hy with rfl | hy
      · exact b_place
      · exact absurd hy (by simp)) (fun h₁ hns hk₁ => ?_)
  have X₁ : K.In h₁ := X.keeps hk₁
  have hx₁ := hk₁ _ _ hx
  have hC₁ := X₁ _ _ hC
  have hLx : s.heap.objs.size ≠ x := Nat.ne_of_gt (Heap.lt_size hx)
  have hsz : s.heap.objs.size < h₁.objs.size := hns.lt
  have hxC : x ≠ C := fun z => by
    have e := X _ _ hC
    rw [← z, hx] at e
    cases e
  have m1 : List.lookup (PySem.Str.ofString "self") ([(PySem.Str.ofString "self", Value.ref x), (PySem.Str.ofString "place", v)] : List (Str × Value)).reverse = some (Value.ref x) := by rfl
  have m2 : List.lookup (PySem.Str.ofString "place") ([(PySem.Str.ofString "self", Value.ref x), (PySem.Str.ofString "place", v)] : List (Str × Value)).reverse = some v := by rfl
  have I₁ : InstAt h₁ x (excO C t0) C none := ⟨hx₁, rfl, rfl, trivial⟩
  obtain ⟨oD, hD1, hD2⟩ : ∃ oD, h₁.get? C = some oD ∧ oD.data = .cls { name := nm, bases := bs, mro := .ref C :: bm, ns := N, qualname := q, hasDict := true, slotNames := sn, subclasses := sub, abstract := ab, collection := col, hasDel := false } := ⟨_, hC₁, rfl⟩
  have hmro : mroIn K C (.ref C) = some true := by
    unfold mroIn
    rw [hcl, Option.bind_some, if_neg (show ¬ (List.isEmpty (Value.ref C :: bm) = true) from Bool.false_ne_true), List.contains_cons]
    simp
  -- super().__init__(msg)
  show wpAt _ _ _ (execs iB _) _ _ _
  refine ks_wpAt_execs_cons (ks_wpAt_Expr_any (ks_wpAt_MethodCall ?_) rfl rfl)
  · refine ks_wpAt_super_base rfl rfl rfl rfl (X₁ _ _ ho) rfl rfl rfl (X₁ _ _ hco) rfl hvs hfile T.top ?_
    refine ks_loadName_global rfl rfl (loadGlobal_builtin (hg.keeps hk₁) T.noS (hb.keeps hk₁) hb2 ⟨rfl, ?_⟩)
    refine wpAny_loadName_free rfl rfl rfl ⟨_, X₁ _ _ hcc, rfl⟩ ?_
    refine wpAny_loadName_local rfl rfl hns m1 ?_
    refine ks_wpAny_isType_cls hD1 hD2 ⟨rfl, ?_⟩
    refine ks_wpAny_call_super hD1 hD2 hx₁ rfl (fun c e => by cases e) (looks_mroIn X₁ hmro) (fun h₂ so hk₂ => ?_)
    have X₂ : K.In h₂ := X₁.keeps hk₂
    have hx₂ := hk₂ _ _ hx₁
    have I₂ : InstAt h₂ x (excO C t0) C none := ⟨hx₂, rfl, rfl, trivial⟩
    refine kxs_getMethod kxs_ValueError so (looks_opaque X₂ T.tp) (l₀ := .ref C :: bm) (fun A Q E s k q => wpAny_bind ((looks_clsIn X₂ hcl) A _ E s k (wpAny_pure q))) (l := bm) (by simp [List.dropWhile_cons]) X₂ hal (I₂.type.andThen (looks_subIn X₂ T.veC)) hxC rfl ?_
    have hk₃ : ∀ b o, h₂.get? b = some o → (h₂.push (kxs_mw "ValueError.__init__" x)).get? b = some o := fun b o e => Heap.get?_push_of_some _ e
    have hu : (h₂.push (kxs_mw "ValueError.__init__" x)).get? h₂.objs.size = some (kxs_mw "ValueError.__init__" x) := Heap.get?_push_at rfl rfl
    refine kxs_callWith (i := "ValueError.__init__") (x := x) (by rfl) (evalArgs_plain (Calls.spliced_cons (Calls.Constant_str (pos := ⟨7, 25, 7, 50⟩) (k := 0) (Calls.spliced_nil ⟨hu, ?_⟩))))
    refine call_mw (hk₃ _ _ (hk₂ _ _ hC₁)) (hk₃ _ _ hx₂) hu (one_size _) (fun h₄ t1 k₄ z₄ hx₄ => ?_)
    have k4 : ∀ b o, b ≠ x → h₁.get? b = some o → h₄.get? b = some o := fun b o hb e => k₄ b o hb (hk₃ b o (hk₂ b o e))
    have hns₄ : h₄.Ns s.heap.objs.size (fun y => List.lookup y [(PySem.Str.ofString "self", Value.ref x), (PySem.Str.ofString "place", v)].reverse) := by
      obtain ⟨oL, es, ep, hL, r⟩ := hns
      exact ⟨oL, es, ep, k4 _ _ hLx hL, r⟩
    have X₄ : K.In h₄ := fun b o e => k4 b o (fun z => by rw [z, hnx] at e; cases e) (X₁ b o e)
    -- self.place = place
    show wpAt _ _ _ (execs [_] _) _ _ _
    refine ks_wpAt_execs_cons (ks_wpAt_Assign_Attr (wpAt_of_wpAny ?_))
    refine ldC (v := v) hns₄ m2 (ldC (v := .ref x) hns₄ m1 ?_)
    refine set_plain X₄ (ox := excO C t1) (od := none) ⟨hx₄, rfl, rfl, trivial⟩ T.sa ?_
    refine exc_osa X₄ hx₄ hcl (show refsVE (.ref C :: bm) = true from hbm) rfl T.noN (fun h₅ tk₅ dx k₅ dn dne hx₅ hn₅ => ?_)
    show wpAt _ _ _ (execs _ _) _ _ _
    refine wpAt_of_wpAny (wpAny_execs_nil (hq h₅ tk₅ dx t1 ⟨fun b o hb e => k₅ b o hb (k4 b o hb (hk₁ b o e)), hx₅, ?_, dne, hn₅⟩))
    have z₂ : h₂.objs.size ≤ (h₂.push (kxs_mw "ValueError.__init__" x)).objs.size := by rw [Heap.size_push]; exact Nat.le_succ _
    exact Nat.le_trans (Nat.le_of_lt hsz) (Nat.le_trans (Nat.le_of_lt (Heap.lt_size so)) (Nat.le_trans z₂ (Nat.le_trans z₄ dn)))
theorem bt_made (T : BtTxt prog K mg C fI) {v : Value} (X : K.In s.heap) (hlim : s.heap.NoLimit) (hg : s.heap.Ns mainGlobals mg) (hb : s.heap.Ns builtinsNs mb) (hb2 : mb "super" = some (.type "super")) (hroom : A.depth + 1 < recursionLimit)
    (hq : ∀ h' tk e d, OwnMade s.heap h' e C d v → R (.ok (.ret (.ref e))) { s with heap := h', toks := tk }) :
    codeAny (model prog w) A (.call (.ref C) ⟨[v], []⟩) R s := by
  obtain ⟨nm, q, N, bs, bm, sn, sub, ab, col, dd, k0, k1, k2, k3, k5, hC, hbm, _⟩ := T.cls
  obtain ⟨hp, g, dr, tk, os⟩ := s
  have k : ∀ b o, hp.get? b = some o → ((hp.push (kdv_tup [v])).push (excO C hp.objs.size)).get? b = some o := fun b o e => Heap.get?_push_of_some _ (Heap.get?_push_of_some _ e)
  have hget : ((hp.push (kdv_tup [v])).push (excO C hp.objs.size)).get? (hp.objs.size + 1) = some (excO C hp.objs.size) := by heap_get
  have hnx : K.lookup (hp.objs.size + 1) = none := by
    cases e : K.lookup (hp.objs.size + 1) with
    | none => rfl
    | some o =>
      have z : hp.get? (hp.objs.size + 1) = some o := X _ _ e
      exact absurd (Nat.lt_of_succ_lt (Heap.lt_size z)) (Nat.lt_irrefl _)
  refine call_own F.excBase_ValueError (fun X => refsVE_contains X bm hbm) (X _ _ hC) (looks_findIn X T.iC) (fun self => bind_fn X self T.tC) (one_size v) ?_
  refine bt_init (s := ⟨(hp.push (kdv_tup [v])).push (excO C hp.objs.size), g, dr, tk, os⟩) T (X.keeps k) (hlim.keeps k) (hg.keeps k) (hb.keeps k) hb2 hget hnx ?_ fun h' tk' dx t1 ⟨k', hx, dn, dne, hns⟩ => ?_
  · show A.depth + 1 < recursionLimit
    exact hroom
  · have old : ∀ b o, hp.get? b = some o → h'.get? b = some o := fun b o e => k' b o (Nat.ne_of_lt (Nat.lt_succ_of_lt (Heap.lt_size e))) (k b o e)
    have z : hp.objs.size + 1 + 1 ≤ dx := by
      first
        | (simpa only [Heap.size_push] using dn)
        | exact dn
        | (have q := dn; rw [Heap.size_push, Heap.size_push] at q; exact q)
    exact ⟨rfl, hq h' tk' (hp.objs.size + 1) dx ⟨old, Nat.le_succ _, ⟨_, _, hx, rfl, rfl, rfl, rfl⟩, Nat.le_trans (Nat.le_trans (Nat.le_succ _) (Nat.le_succ _)) z, dne, hns⟩⟩
end
end BTX
end PySem
namespace L2
open PySem PySem.Spec PyProof.Rows
/-- the dict of such an error -/
abbrev xdP (v : V) : HO := .xd [((PySem.Str.ofString "place"), v)]
theorem relO_place {v : V} {v' : Value} (r : RelV v v') (f : Str) : RelO (List.lookup f [((PySem.Str.ofString "place"), v)]) (if f = PySem.Str.ofString "place" then some v' else none) := by
  by_cases hw : f = PySem.Str.ofString "place"
  · subst hw
    rw [if_pos rfl]
    have q : List.lookup (PySem.Str.ofString "place") [((PySem.Str.ofString "place"), v)] = some v := by simp [List.lookup]
    rw [q]
    exact r
  · rw [if_neg hw]
    have qw : (f == PySem.Str.ofString "place") = false := by simpa using hw
    have q2 : List.lookup f [((PySem.Str.ofString "place"), v)] = none := by simp [List.lookup, qw]
    rw [q2]
    trivial
section
variable {X : Cx} {C fI : Addr}
def tMkBt (C : Addr) (ta : TA) : St → Hp → XK → Prop := fun σ H Q => ta σ H fun vs H1 => ∃ v, vs = [v] ∧ ∀ d, H1 d = none → Q (.ref C) (some d) (upd H1 d (xdP v))
theorem pmk_bt {a : Expr} {ta : TA} {p pos : Pos} {k : Nat} (T : PySem.BTX.BtTxt X.prog X.K X.mg C fI) (hr : Room k X.A) (ha : PA X [a] ta) (hg : Gl X "BadText" := by rfl)
    (he : starEach (a :: []) X.env = (false, eval a X.env) :: starEach [] X.env := by rfl) (hpl : (backTo pos (starEach [] X.env)).any (·.1) = false := by rfl) :
    PMk X (.Call (.Name "BadText" p) [a] [] pos) (tMkBt C ta) := by
  intro pins s σ H Q I h
  refine wpAny_Call_Name_kw (ld_glob I hg T.gC ?_)
  refine PySem.W.callWith_K (h₀ := X.base) I.ok.mod.kin T.kC (thn (ha.run pos pins s σ H _ I h) fun us s1 hh => ?_) he hpl
  obtain ⟨vs, H1, I1, r1, v, ev, q1⟩ := hh
  subst ev
  refine ⟨I1.kIn, ?_⟩
  cases r1 with
  | cons rv rn =>
    rename_i v' us'
    cases rn
    show wpAny _ _ (call (.ref C) [v']) _ _ _
    have hlim := I1.nolimit
    have hgl := I1.mod.glob.keeps I1.bk
    obtain ⟨mb, hb1, hb2⟩ := I1.mod.blt
    have hbb := hb1.keeps I1.bk
    have hsup : mb "super" = some (.type "super") := (hb2 _ (by decide +kernel)).trans (by first | rfl | decide +kernel | kernel_rfl)
    obtain ⟨hp, g, dr, tk, os⟩ := s1
    refine wpAny_call (PySem.BTX.bt_made T I1.kIn hlim hgl hbb hsup (by have := hr.dp; omega) fun h' tk' e d M => ?_)
    show MkP X pins σ Q (.ref e) ⟨h', g, dr, tk', os⟩
    obtain ⟨oe, fv, hoe, hc, hd, hdat, h1⟩ := M.obj
    have hns := M.ns
    obtain ⟨G', g1, g2⟩ := restrict h' fun b => decide (b ≠ e)
    have gk : ∀ b, b ≠ e → G'.get? b = h'.get? b := fun b hb => g1 b (decide_eq_true hb)
    have ge : G'.get? e = none := g2 e (by simp)
    have old : ∀ b o, hp.get? b = some o → G'.get? b = some o := fun b o q => (gk b (Nat.ne_of_lt (Nat.lt_of_lt_of_le (Heap.lt_size q) M.new))).trans (M.keep b o q)
    have ob : ObjOk X.prog X.w (upd H1 d (xdP v)) G' d (xdP v) :=
      ⟨_, hns.at (fun o q => (gk d M.dne).trans q), fun f => relO_place rv f⟩
    have J : Inv X pins σ (upd H1 d (xdP v)) ⟨G', g, dr, tk', os⟩ := I1.laid (t' := tk') old M.dbig ob
    refine ⟨e, oe, fv, ⟨G', g, dr, tk', os⟩, _, .ref C, some d, rfl, J, fun b o q => ?_, ge, hoe, ⟨hc, hd⟩, hdat, h1, ?_, rfl, I1.bare, raises_own T.exC T.tyC, q1 d (I1.hok.fresh M.dbig)⟩
    · by_cases hb : b = e
      · have q' : G'.get? b = some o := q
        rw [hb, ge] at q'; cases q'
      · exact (gk b hb).symm.trans q
    · rw [upd_ne (Ne.symm M.dne)]
      exact I1.hok.fresh M.new
def tRaiseBt (C : Addr) (W : WX) (ta : TA) : TS := fun _ σ H => tMkBt C ta σ H fun cls d H' => W cls d σ H'
/-- raise BadText(e) -/
theorem ps_raiseBt {a : Expr} {ta : TA} {W : WX} {p pos pos2 : Pos} {k : Nat} (hc : X.calm = true) (T : PySem.BTX.BtTxt X.prog X.K X.mg C fI) (hr : Room k X.A) (tk : Takes X W) (ha : PA X [a] ta) (hg : Gl X "BadText" := by rfl)
    (he : starEach (a :: []) X.env = (false, eval a X.env) :: starEach [] X.env := by rfl) (hpl : (backTo pos (starEach [] X.env)).any (·.1) = false := by rfl) :
    PS X (.Raise (some (.Call (.Name "BadText" p) [a] [] pos)) none pos2) (tRaiseBt C W ta) := ps_raise hc tk (pmk_bt T hr ha hg he hpl)
/-- e.place, e the exception that the suite holds -/
def tPlace (C : Addr) (a : Addr) (cls : Value) (d : Option Addr) (te : TE) : TE := fun σ H Q => te σ H fun x H1 => x = .ref a ∧ cls = .ref C ∧ ∃ (dd : Addr) (v : V), d = some dd ∧ H1 dd = some (xdP v) ∧ Q v H1
theorem pe_place {a : Addr} {oe : Obj} {cls : Value} {d : Option Addr} {pn : List (Addr × Obj)} {e : Expr} {te : TE} {pos : Pos} (T : PySem.BTX.BtTxt X.prog X.K X.mg C fI) (hz : Zc cls d oe) (hf : ∃ vs, oe.data = .fields vs) (he : PE (X.suite a ((a, oe) :: pn)) e te)
    (hb : attributeBase e "place" X.env (eval e X.env) = eval e X.env := by rfl) :
    PE (X.suite a ((a, oe) :: pn)) (.Attribute e "place" pos) (tPlace C a cls d te) := by
  refine ⟨fun pins s σ H Q I h => ?_⟩
  refine attr_of hb (thn (he.run pins s σ H _ I h) fun u s1 hh => ?_)
  obtain ⟨x, H1, I1, rx, ex, ec, dd, v, ed, ea, q⟩ := hh
  subst ex
  obtain rfl : u = Value.ref a := rx
  subst ec
  subst ed
  obtain ⟨ha, _⟩ := I1.pin (a, oe) (List.mem_append_left _ List.mem_cons_self)
  obtain ⟨vs, hd⟩ := hf
  have hx : ObjOk X.prog X.w H1 s1.heap dd (xdP v) := I1.hok dd _ ea
  obtain ⟨mA, hns, hr⟩ := hx
  obtain ⟨od, ho, hl⟩ := lookIn_ns hns
  have l : List.lookup (PySem.Str.ofString "place") [((PySem.Str.ofString "place"), v)] = some v := by simp [List.lookup]
  obtain ⟨u, hu, ru⟩ := RelO.some_of (v := v) (o := mA "place") (by rw [← l]; exact hr "place")
  have J : PySem.W.InstAt s1.heap a oe C (some od) := ⟨ha, hz.1, by unfold PySem.W.notCls; rw [hd] <;> rfl, by rw [hz.2]; exact ho⟩
  exact HandSPX.exc_get I1.kIn J T.ga T.gg T.exC (PySem.W.findObj_own T.hdC T.noN rfl (by rw [hl, hu])) (handed_of ru) ⟨v, H1, I1.tok _, ru, q⟩
end
end L2
namespace PySem
namespace BTX
open PySem.W PySem.Calls PyProof.Rows
section
variable {prog : Program} {w : World} {A : Around} {E : Value → Shared → Prop} {s : Shared}
/-- an object of a class that lies below another one, by the classes alone -/
theorem isi_sub {x t c : Value} {Q : Value → Shared → Prop} (Lx : W.Looks (model prog w) s.heap (typeOf x) t) (Lc : W.Looks (model prog w) s.heap (typeOf c) (.type "type")) (Lt : W.Looks (model prog w) s.heap (isType c) true)
    (Ls : W.Looks (model prog w) s.heap (isSubtype t c) true) (hx : x ≠ .builtin "__main__.__loader__#opaque") (hne : (t == c) = false) (h : Q (.bool true) s) : wpAny (model prog w) A (call (.builtin "isinstance") [x, c]) Q E s := by
  obtain ⟨hp, g, d, tk, os⟩ := s
  refine call_isinstance_of ?_ hx
  unfold Builtin.«isinstance.nested»
  refine wpAny_bind (m := typeOf x) (Lx.at ?_)
  show wpAny _ _ (if (t == c) = true then _ else _) _ _ _
  rw [hne, if_neg Bool.false_ne_true]
  refine wpAny_bind (m := typeOf c) (Lc.at ?_)
  show wpAny _ _ (if (Value.type "type" == Value.type "type") = true then _ else _) _ _ _
  rw [if_pos (by decide)]
  refine wpAny_bind (wpAny_bind (m := isType c) (Lt.at ?_))
  refine wpAny_bind (m := isInstance x c) ?_
  unfold isInstance
  refine wpAny_bind (Lx.at (Ls.at ?_))
  exact wpAny_pure (a := true) (wpAny_pure h)
end
end BTX
end PySem
namespace L2
open PySem PySem.Spec PyProof.Rows
/-- isinstance(e, c), e the exception that the suite holds, of a class below c -/
def rIsUp (K : PySem.W.Frag) (D a : Addr) : List V → Hp → VK → Prop := fun xs H Q => ∃ (c : V) (cv : Value), xs = [.ref a, c] ∧ (∀ u, RelV c u → u = cv) ∧ (Value.ref D == cv) = false ∧ PySem.W.kitCls K (.ref D) cv = some true ∧ Q (.bl true) H
theorem call_isUp {X : Cx} {a D : Addr} {oe : Obj} {pn : List (Addr × Obj)} (hc : oe.cls = .ref D) : CallR (X.suite a ((a, oe) :: pn)) (.builtin "isinstance") (rIsUp X.K D a) := by
  intro pins s σ H xs us Q I r h
  obtain ⟨c, cv, rfl, hcv, hne, e, q⟩ := h
  cases r with
  | cons rx rr =>
    cases rr with
    | cons rt rr =>
      cases rr
      cases rx
      have ec := hcv _ rt
      subst ec
      obtain ⟨hget, _⟩ := I.pin (a, oe) (List.mem_append.mpr (.inl List.mem_cons_self))
      obtain ⟨k1, k2, k3⟩ := PySem.W.kit_cls (M := model X.prog X.w) I.kIn e
      have lx : PySem.W.Looks (model X.prog X.w) s.heap (typeOf (.ref a)) (.ref D) := by
        rw [← hc]
        exact (PySem.W.Looks.ld hget).andThen .now
      exact PySem.BTX.isi_sub lx k1 k2 k3 (fun z => nomatch z) hne ⟨.bl true, H, I, rfl, q⟩
end L2
namespace K77
open PySem PySem.Spec PyProof.Rows L2
def top (i : Nat) : Stmt := PySem.Challenge.pw_sumsworn_k77_texts_that_are_none.main.body.getD i (.Pass ⟨0, 0, 0, 0⟩)
/-- the function object at a place -/
def fdO (K : PySem.W.Frag) (p : Str × Option Str) : FuncData := match K.lookup (He.fAd K p) with
  | some ⟨_, _, .func fd, _⟩ => fd
  | _ => default
theorem fdO_ok {K : PySem.W.Frag} {p : Str × Option Str} {x qual : Str} {a : Arguments} {b : List Stmt} {sc : Scope} {dvs : List V} {kws : List (Str × V)} (h : ∃ fd, FunD K x qual a b sc dvs kws (He.fAd K p) fd) : FunD K x qual a b sc dvs kws (He.fAd K p) (fdO K p) := by
  obtain ⟨fd, hF⟩ := h
  obtain ⟨oc, od, dV, kV, doc, pm, an, cdv, ct, osl, e, lk, _⟩ := hF.ex
  have q : fdO K p = fd := by
    unfold fdO
    rw [lk]
  rw [q]
  exact hF
abbrev s_words_in : Stmt := top 11
abbrev N_words_in : List Str := ["text", "found", "at", "end"]
theorem sc_words_in : FnScope N_words_in ["text"] (defScope s_words_in) := ⟨rfl, rfl, rfl, by decide +kernel, rfl, by decide +kernel, by decide +kernel⟩
def d_words_in : He.DefD := ⟨("words_in", none), "words_in", "words_in", defArgs s_words_in, defBody s_words_in, defScope s_words_in, [], []⟩
abbrev s_is_numeral : Stmt := top 12
abbrev N_is_numeral : List Str := ["word", "sign"]
theorem sc_is_numeral : FnScope N_is_numeral ["word"] (defScope s_is_numeral) := ⟨rfl, rfl, rfl, by decide +kernel, rfl, by decide +kernel, by decide +kernel⟩
def d_is_numeral : He.DefD := ⟨("is_numeral", none), "is_numeral", "is_numeral", defArgs s_is_numeral, defBody s_is_numeral, defScope s_is_numeral, [], []⟩
abbrev s_Reader___init__ : Stmt := inClass (top 13) 0
abbrev N_Reader___init__ : List Str := ["self", "text"]
theorem sc_Reader___init__ : FnScope N_Reader___init__ ["self", "text"] (defScope s_Reader___init__) := ⟨rfl, rfl, rfl, by decide +kernel, rfl, by decide +kernel, by decide +kernel⟩
def d_Reader___init__ : He.DefD := ⟨("Reader", some "__init__"), "__init__", "Reader.__init__", defArgs s_Reader___init__, defBody s_Reader___init__, defScope s_Reader___init__, [], []⟩
abbrev s_Reader_word : Stmt := inClass (top 13) 1
abbrev N_Reader_word : List Str := ["self"]
theorem sc_Reader_word : FnScope N_Reader_word ["self"] (defScope s_Reader_word) := ⟨rfl, rfl, rfl, by decide +kernel, rfl, by decide +kernel, by decide +kernel⟩
def d_Reader_word : He.DefD := ⟨("Reader", some "word"), "word", "Reader.word", defArgs s_Reader_word, defBody s_Reader_word, defScope s_Reader_word, [], []⟩
abbrev s_Reader_stop : Stmt := inClass (top 13) 2
abbrev N_Reader_stop : List Str := ["self"]
theorem sc_Reader_stop : FnScope N_Reader_stop ["self"] (defScope s_Reader_stop) := ⟨rfl, rfl, rfl, by decide +kernel, rfl, by decide +kernel, by decide +kernel⟩
def d_Reader_stop : He.DefD := ⟨("Reader", some "stop"), "stop", "Reader.stop", defArgs s_Reader_stop, defBody s_Reader_stop, defScope s_Reader_stop, [], []⟩
abbrev s_Reader_taken : Stmt := inClass (top 13) 3
abbrev N_Reader_taken : List Str := ["self", "found"]
theorem sc_Reader_taken : FnScope N_Reader_taken ["self"] (defScope s_Reader_taken) := ⟨rfl, rfl, rfl, by decide +kernel, rfl, by decide +kernel, by decide +kernel⟩
def d_Reader_taken : He.DefD := ⟨("Reader", some "taken"), "taken", "Reader.taken", defArgs s_Reader_taken, defBody s_Reader_taken, defScope s_Reader_taken, [], []⟩
abbrev s_Reader_goes_on : Stmt := inClass (top 13) 4
abbrev N_Reader_goes_on : List Str := ["self", "sign"]
theorem sc_Reader_goes_on : FnScope N_Reader_goes_on ["self", "sign"] (defScope s_Reader_goes_on) := ⟨rfl, rfl, rfl, by decide +kernel, rfl, by decide +kernel, by decide +kernel⟩
def d_Reader_goes_on : He.DefD := ⟨("Reader", some "goes_on"), "goes_on", "Reader.goes_on", defArgs s_Reader_goes_on, defBody s_Reader_goes_on, defScope s_Reader_goes_on, [], []⟩
abbrev s_Reader_mark : Stmt := inClass (top 13) 5
abbrev N_Reader_mark : List Str := ["self", "sign"]
theorem sc_Reader_mark : FnScope N_Reader_mark ["self", "sign"] (defScope s_Reader_mark) := ⟨rfl, rfl, rfl, by decide +kernel, rfl, by decide +kernel, by decide +kernel⟩
def d_Reader_mark : He.DefD := ⟨("Reader", some "mark"), "mark", "Reader.mark", defArgs s_Reader_mark, defBody s_Reader_mark, defScope s_Reader_mark, [], []⟩
abbrev s_Reader_numeral : Stmt := inClass (top 13) 6
abbrev N_Reader_numeral : List Str := ["self", "most", "word"]
theorem sc_Reader_numeral : FnScope N_Reader_numeral ["self", "most"] (defScope s_Reader_numeral) := ⟨rfl, rfl, rfl, by decide +kernel, rfl, by decide +kernel, by decide +kernel⟩
def d_Reader_numeral : He.DefD := ⟨("Reader", some "numeral"), "numeral", "Reader.numeral", defArgs s_Reader_numeral, defBody s_Reader_numeral, defScope s_Reader_numeral, [], []⟩
abbrev s_Reader_number : Stmt := inClass (top 13) 7
abbrev N_Reader_number : List Str := ["self", "least", "most"]
theorem sc_Reader_number : FnScope N_Reader_number ["self", "least", "most"] (defScope s_Reader_number) := ⟨rfl, rfl, rfl, by decide +kernel, rfl, by decide +kernel, by decide +kernel⟩
def d_Reader_number : He.DefD := ⟨("Reader", some "number"), "number", "Reader.number", defArgs s_Reader_number, defBody s_Reader_number, defScope s_Reader_number, [], []⟩
abbrev s_Reader_end : Stmt := inClass (top 13) 8
abbrev N_Reader_end : List Str := ["self"]
theorem sc_Reader_end : FnScope N_Reader_end ["self"] (defScope s_Reader_end) := ⟨rfl, rfl, rfl, by decide +kernel, rfl, by decide +kernel, by decide +kernel⟩
def d_Reader_end : He.DefD := ⟨("Reader", some "end"), "end", "Reader.end", defArgs s_Reader_end, defBody s_Reader_end, defScope s_Reader_end, [], []⟩
abbrev s_is_variable_word : Stmt := top 15
abbrev N_is_variable_word : List Str := ["word"]
theorem sc_is_variable_word : FnScope N_is_variable_word ["word"] (defScope s_is_variable_word) := ⟨rfl, rfl, rfl, by decide +kernel, rfl, by decide +kernel, by decide +kernel⟩
def d_is_variable_word : He.DefD := ⟨("is_variable_word", none), "is_variable_word", "is_variable_word", defArgs s_is_variable_word, defBody s_is_variable_word, defScope s_is_variable_word, [], []⟩
abbrev s_take_variable : Stmt := top 16
abbrev N_take_variable : List Str := ["reader", "least", "most", "word"]
theorem sc_take_variable : FnScope N_take_variable ["reader", "least", "most"] (defScope s_take_variable) := ⟨rfl, rfl, rfl, by decide +kernel, rfl, by decide +kernel, by decide +kernel⟩
def d_take_variable : He.DefD := ⟨("take_variable", none), "take_variable", "take_variable", defArgs s_take_variable, defBody s_take_variable, defScope s_take_variable, [], []⟩
abbrev s_take_literal : Stmt := top 17
abbrev N_take_literal : List Str := ["reader", "least", "most", "is_flipped"]
theorem sc_take_literal : FnScope N_take_literal ["reader", "least", "most"] (defScope s_take_literal) := ⟨rfl, rfl, rfl, by decide +kernel, rfl, by decide +kernel, by decide +kernel⟩
def d_take_literal : He.DefD := ⟨("take_literal", none), "take_literal", "take_literal", defArgs s_take_literal, defBody s_take_literal, defScope s_take_literal, [], []⟩
abbrev s_take_weight : Stmt := top 18
abbrev N_take_weight : List Str := ["reader", "most"]
theorem sc_take_weight : FnScope N_take_weight ["reader", "most"] (defScope s_take_weight) := ⟨rfl, rfl, rfl, by decide +kernel, rfl, by decide +kernel, by decide +kernel⟩
def d_take_weight : He.DefD := ⟨("take_weight", none), "take_weight", "take_weight", defArgs s_take_weight, defBody s_take_weight, defScope s_take_weight, [], []⟩
abbrev s_take_terms : Stmt := top 19
abbrev N_take_terms : List Str := ["reader", "last", "most", "weight", "found"]
theorem sc_take_terms : FnScope N_take_terms ["reader", "last", "most"] (defScope s_take_terms) := ⟨rfl, rfl, rfl, by decide +kernel, rfl, by decide +kernel, by decide +kernel⟩
def d_take_terms : He.DefD := ⟨("take_terms", none), "take_terms", "take_terms", defArgs s_take_terms, defBody s_take_terms, defScope s_take_terms, [], []⟩
abbrev s_take_sum : Stmt := top 20
abbrev N_take_sum : List Str := ["reader", "last", "most", "terms"]
theorem sc_take_sum : FnScope N_take_sum ["reader", "last", "most"] (defScope s_take_sum) := ⟨rfl, rfl, rfl, by decide +kernel, rfl, by decide +kernel, by decide +kernel⟩
def d_take_sum : He.DefD := ⟨("take_sum", none), "take_sum", "take_sum", defArgs s_take_sum, defBody s_take_sum, defScope s_take_sum, [], []⟩
abbrev s_take_price : Stmt := top 21
abbrev N_take_price : List Str := ["reader", "last", "most", "terms"]
theorem sc_take_price : FnScope N_take_price ["reader", "last", "most"] (defScope s_take_price) := ⟨rfl, rfl, rfl, by decide +kernel, rfl, by decide +kernel, by decide +kernel⟩
def d_take_price : He.DefD := ⟨("take_price", none), "take_price", "take_price", defArgs s_take_price, defBody s_take_price, defScope s_take_price, [], []⟩
abbrev s_read_problem : Stmt := top 22
abbrev N_read_problem : List Str := ["text", "reader", "many", "price", "sums"]
theorem sc_read_problem : FnScope N_read_problem ["text"] (defScope s_read_problem) := ⟨rfl, rfl, rfl, by decide +kernel, rfl, by decide +kernel, by decide +kernel⟩
def d_read_problem : He.DefD := ⟨("read_problem", none), "read_problem", "read_problem", defArgs s_read_problem, defBody s_read_problem, defScope s_read_problem, [], []⟩
abbrev s_l_deck : Stmt := top 24
abbrev N_l_deck : List Str := ["script", "cell"]
theorem sc_l_deck : FnScope N_l_deck ["script"] (defScope s_l_deck) := ⟨rfl, rfl, rfl, by decide +kernel, rfl, by decide +kernel, by decide +kernel⟩
def d_l_deck : He.DefD := ⟨("_law_deck", none), "_law_deck", "_law_deck", defArgs s_l_deck, defBody s_l_deck, defScope s_l_deck, [], []⟩
abbrev s_l_pick : Stmt := top 25
abbrev N_l_pick : List Str := ["deck", "many", "cells", "cell", "size", "found"]
theorem sc_l_pick : FnScope N_l_pick ["deck", "many"] (defScope s_l_pick) := ⟨rfl, rfl, rfl, by decide +kernel, rfl, by decide +kernel, by decide +kernel⟩
def d_l_pick : He.DefD := ⟨("_law_pick", none), "_law_pick", "_law_pick", defArgs s_l_pick, defBody s_l_pick, defScope s_l_pick, [], []⟩
abbrev s_l_alike : Stmt := top 26
abbrev N_l_alike : List Str := ["told", "due", "waiting", "one", "two", "k"]
theorem sc_l_alike : FnScope N_l_alike ["told", "due"] (defScope s_l_alike) := ⟨rfl, rfl, rfl, by decide +kernel, rfl, by decide +kernel, by decide +kernel⟩
def d_l_alike : He.DefD := ⟨("_law_alike", none), "_law_alike", "_law_alike", defArgs s_l_alike, defBody s_l_alike, defScope s_l_alike, [], []⟩
abbrev s_l_sum : Stmt := top 27
abbrev N_l_sum : List Str := ["deck", "many", "size", "most", "kind", "terms", "variable", "every", "literal", "weight"]
theorem sc_l_sum : FnScope N_l_sum ["deck", "many", "size", "most"] (defScope s_l_sum) := ⟨rfl, rfl, rfl, by decide +kernel, rfl, by decide +kernel, by decide +kernel⟩
def d_l_sum : He.DefD := ⟨("_law_sum", none), "_law_sum", "_law_sum", defArgs s_l_sum, defBody s_l_sum, defScope s_l_sum, [], []⟩
abbrev s_l_tied : Stmt := top 28
abbrev N_l_tied : List Str := ["deck", "many", "sums", "kind", "turn", "first", "second", "one", "other", "price", "terms", "k"]
theorem sc_l_tied : FnScope N_l_tied ["deck", "many"] (defScope s_l_tied) := ⟨rfl, rfl, rfl, by decide +kernel, rfl, by decide +kernel, by decide +kernel⟩
def d_l_tied : He.DefD := ⟨("_law_tied", none), "_law_tied", "_law_tied", defArgs s_l_tied, defBody s_l_tied, defScope s_l_tied, [], []⟩
abbrev s_l_split : Stmt := top 29
abbrev N_l_split : List Str := ["text", "run", "found", "at", "end"]
theorem sc_l_split : FnScope N_l_split ["text"] (defScope s_l_split) := ⟨rfl, rfl, rfl, by decide +kernel, rfl, by decide +kernel, by decide +kernel⟩
def d_l_split : He.DefD := ⟨("_law_split", none), "_law_split", "_law_split", defArgs s_l_split, defBody s_l_split, defScope s_l_split, [], []⟩
abbrev s_l_number_words : Stmt := top 30
abbrev N_l_number_words : List Str := ["number"]
theorem sc_l_number_words : FnScope N_l_number_words ["number"] (defScope s_l_number_words) := ⟨rfl, rfl, rfl, by decide +kernel, rfl, by decide +kernel, by decide +kernel⟩
def d_l_number_words : He.DefD := ⟨("_law_number_words", none), "_law_number_words", "_law_number_words", defArgs s_l_number_words, defBody s_l_number_words, defScope s_l_number_words, [], []⟩
abbrev s_l_literal_words : Stmt := top 31
abbrev N_l_literal_words : List Str := ["literal"]
theorem sc_l_literal_words : FnScope N_l_literal_words ["literal"] (defScope s_l_literal_words) := ⟨rfl, rfl, rfl, by decide +kernel, rfl, by decide +kernel, by decide +kernel⟩
def d_l_literal_words : He.DefD := ⟨("_law_literal_words", none), "_law_literal_words", "_law_literal_words", defArgs s_l_literal_words, defBody s_l_literal_words, defScope s_l_literal_words, [], []⟩
abbrev s_l_terms_words : Stmt := top 32
abbrev N_l_terms_words : List Str := ["terms", "words", "literal", "weight"]
theorem sc_l_terms_words : FnScope N_l_terms_words ["terms"] (defScope s_l_terms_words) := ⟨rfl, rfl, rfl, by decide +kernel, rfl, by decide +kernel, by decide +kernel⟩
def d_l_terms_words : He.DefD := ⟨("_law_terms_words", none), "_law_terms_words", "_law_terms_words", defArgs s_l_terms_words, defBody s_l_terms_words, defScope s_l_terms_words, [], []⟩
abbrev s_l_problem_words : Stmt := top 33
abbrev N_l_problem_words : List Str := ["problem", "words", "terms", "degree"]
theorem sc_l_problem_words : FnScope N_l_problem_words ["problem"] (defScope s_l_problem_words) := ⟨rfl, rfl, rfl, by decide +kernel, rfl, by decide +kernel, by decide +kernel⟩
def d_l_problem_words : He.DefD := ⟨("_law_problem_words", none), "_law_problem_words", "_law_problem_words", defArgs s_l_problem_words, defBody s_l_problem_words, defScope s_l_problem_words, [], []⟩
abbrev s_l_spread : Stmt := top 34
abbrev N_l_spread : List Str := ["deck", "words", "run", "text", "last", "word", "blank"]
theorem sc_l_spread : FnScope N_l_spread ["deck", "words"] (defScope s_l_spread) := ⟨rfl, rfl, rfl, by decide +kernel, rfl, by decide +kernel, by decide +kernel⟩
def d_l_spread : He.DefD := ⟨("_law_spread", none), "_law_spread", "_law_spread", defArgs s_l_spread, defBody s_l_spread, defScope s_l_spread, [], []⟩
abbrev s_l_now : Stmt := top 35
abbrev N_l_now : List Str := ["reader", "words"]
theorem sc_l_now : FnScope N_l_now ["reader"] (defScope s_l_now) := ⟨rfl, rfl, rfl, by decide +kernel, rfl, by decide +kernel, by decide +kernel⟩
def d_l_now : He.DefD := ⟨("_law_now", none), "_law_now", "_law_now", defArgs s_l_now, defBody s_l_now, defScope s_l_now, [], []⟩
abbrev s_l_stop : Stmt := top 36
abbrev N_l_stop : List Str := ["reader", "words"]
theorem sc_l_stop : FnScope N_l_stop ["reader"] (defScope s_l_stop) := ⟨rfl, rfl, rfl, by decide +kernel, rfl, by decide +kernel, by decide +kernel⟩
def d_l_stop : He.DefD := ⟨("_law_stop", none), "_law_stop", "_law_stop", defArgs s_l_stop, defBody s_l_stop, defScope s_l_stop, [], []⟩
abbrev s_l_on : Stmt := top 37
abbrev N_l_on : List Str := ["reader", "sign"]
theorem sc_l_on : FnScope N_l_on ["reader", "sign"] (defScope s_l_on) := ⟨rfl, rfl, rfl, by decide +kernel, rfl, by decide +kernel, by decide +kernel⟩
def d_l_on : He.DefD := ⟨("_law_on", none), "_law_on", "_law_on", defArgs s_l_on, defBody s_l_on, defScope s_l_on, [], []⟩
abbrev s_l_is_numeral : Stmt := top 38
abbrev N_l_is_numeral : List Str := ["word", "sign"]
theorem sc_l_is_numeral : FnScope N_l_is_numeral ["word"] (defScope s_l_is_numeral) := ⟨rfl, rfl, rfl, by decide +kernel, rfl, by decide +kernel, by decide +kernel⟩
def d_l_is_numeral : He.DefD := ⟨("_law_is_numeral", none), "_law_is_numeral", "_law_is_numeral", defArgs s_l_is_numeral, defBody s_l_is_numeral, defScope s_l_is_numeral, [], []⟩
abbrev s_l_numeral : Stmt := top 39
abbrev N_l_numeral : List Str := ["reader", "least", "most", "word"]
theorem sc_l_numeral : FnScope N_l_numeral ["reader", "least", "most"] (defScope s_l_numeral) := ⟨rfl, rfl, rfl, by decide +kernel, rfl, by decide +kernel, by decide +kernel⟩
def d_l_numeral : He.DefD := ⟨("_law_numeral", none), "_law_numeral", "_law_numeral", defArgs s_l_numeral, defBody s_l_numeral, defScope s_l_numeral, [], []⟩
abbrev s_l_number : Stmt := top 40
abbrev N_l_number : List Str := ["reader"]
theorem sc_l_number : FnScope N_l_number ["reader"] (defScope s_l_number) := ⟨rfl, rfl, rfl, by decide +kernel, rfl, by decide +kernel, by decide +kernel⟩
def d_l_number : He.DefD := ⟨("_law_number", none), "_law_number", "_law_number", defArgs s_l_number, defBody s_l_number, defScope s_l_number, [], []⟩
abbrev s_l_literal : Stmt := top 41
abbrev N_l_literal : List Str := ["reader", "least", "most", "flipped", "word"]
theorem sc_l_literal : FnScope N_l_literal ["reader", "least", "most"] (defScope s_l_literal) := ⟨rfl, rfl, rfl, by decide +kernel, rfl, by decide +kernel, by decide +kernel⟩
def d_l_literal : He.DefD := ⟨("_law_literal", none), "_law_literal", "_law_literal", defArgs s_l_literal, defBody s_l_literal, defScope s_l_literal, [], []⟩
abbrev s_l_terms : Stmt := top 42
abbrev N_l_terms : List Str := ["reader", "last", "weight", "found"]
theorem sc_l_terms : FnScope N_l_terms ["reader", "last"] (defScope s_l_terms) := ⟨rfl, rfl, rfl, by decide +kernel, rfl, by decide +kernel, by decide +kernel⟩
def d_l_terms : He.DefD := ⟨("_law_terms", none), "_law_terms", "_law_terms", defArgs s_l_terms, defBody s_l_terms, defScope s_l_terms, [], []⟩
abbrev s_l_need : Stmt := top 43
abbrev N_l_need : List Str := ["reader", "sign"]
theorem sc_l_need : FnScope N_l_need ["reader", "sign"] (defScope s_l_need) := ⟨rfl, rfl, rfl, by decide +kernel, rfl, by decide +kernel, by decide +kernel⟩
def d_l_need : He.DefD := ⟨("_law_need", none), "_law_need", "_law_need", defArgs s_l_need, defBody s_l_need, defScope s_l_need, [], []⟩
abbrev s_l_read : Stmt := top 44
abbrev N_l_read : List Str := ["text", "reader", "many", "price", "sums", "terms"]
theorem sc_l_read : FnScope N_l_read ["text"] (defScope s_l_read) := ⟨rfl, rfl, rfl, by decide +kernel, rfl, by decide +kernel, by decide +kernel⟩
def d_l_read : He.DefD := ⟨("_law_read", none), "_law_read", "_law_read", defArgs s_l_read, defBody s_l_read, defScope s_l_read, [], []⟩
abbrev s_l_told : Stmt := top 45
abbrev N_l_told : List Str := ["text", "found", "place", "e"]
theorem sc_l_told : FnScope N_l_told ["text"] (defScope s_l_told) := ⟨rfl, rfl, rfl, by decide +kernel, rfl, by decide +kernel, by decide +kernel⟩
def d_l_told : He.DefD := ⟨("_law_told", none), "_law_told", "_law_told", defArgs s_l_told, defBody s_l_told, defScope s_l_told, [], []⟩
abbrev s_l_mixed : Stmt := top 46
abbrev N_l_mixed : List Str := ["deck", "words", "pool", "found", "turn", "at", "which", "new"]
theorem sc_l_mixed : FnScope N_l_mixed ["deck", "words"] (defScope s_l_mixed) := ⟨rfl, rfl, rfl, by decide +kernel, rfl, by decide +kernel, by decide +kernel⟩
def d_l_mixed : He.DefD := ⟨("_law_mixed", none), "_law_mixed", "_law_mixed", defArgs s_l_mixed, defBody s_l_mixed, defScope s_l_mixed, [], []⟩
abbrev s_law : Stmt := top 47
abbrev N_law : List Str := ["script", "deck", "turn", "many", "words", "more", "text"]
theorem sc_law : FnScope N_law ["script"] (defScope s_law) := ⟨rfl, rfl, rfl, by decide +kernel, rfl, by decide +kernel, by decide +kernel⟩
def d_law : He.DefD := ⟨("law", none), "law", "law", defArgs s_law, defBody s_law, defScope s_law, [], []⟩
structure Txt (P : Program) (K : PySem.W.Frag) (mg : Str → Option Value) : Prop where
  g_words_in : mg "words_in" = some (.ref (He.fAd K ("words_in", none)))
  F_words_in : FunD K "words_in" "words_in" (defArgs s_words_in) (defBody s_words_in) (defScope s_words_in) [] [] (He.fAd K ("words_in", none)) (fdO K ("words_in", none))
  g_is_numeral : mg "is_numeral" = some (.ref (He.fAd K ("is_numeral", none)))
  F_is_numeral : FunD K "is_numeral" "is_numeral" (defArgs s_is_numeral) (defBody s_is_numeral) (defScope s_is_numeral) [] [] (He.fAd K ("is_numeral", none)) (fdO K ("is_numeral", none))
  F_Reader___init__ : FunD K "__init__" "Reader.__init__" (defArgs s_Reader___init__) (defBody s_Reader___init__) (defScope s_Reader___init__) [] [] (He.fAd K ("Reader", some "__init__")) (fdO K ("Reader", some "__init__"))
  F_Reader_word : FunD K "word" "Reader.word" (defArgs s_Reader_word) (defBody s_Reader_word) (defScope s_Reader_word) [] [] (He.fAd K ("Reader", some "word")) (fdO K ("Reader", some "word"))
  F_Reader_stop : FunD K "stop" "Reader.stop" (defArgs s_Reader_stop) (defBody s_Reader_stop) (defScope s_Reader_stop) [] [] (He.fAd K ("Reader", some "stop")) (fdO K ("Reader", some "stop"))
  F_Reader_taken : FunD K "taken" "Reader.taken" (defArgs s_Reader_taken) (defBody s_Reader_taken) (defScope s_Reader_taken) [] [] (He.fAd K ("Reader", some "taken")) (fdO K ("Reader", some "taken"))
  F_Reader_goes_on : FunD K "goes_on" "Reader.goes_on" (defArgs s_Reader_goes_on) (defBody s_Reader_goes_on) (defScope s_Reader_goes_on) [] [] (He.fAd K ("Reader", some "goes_on")) (fdO K ("Reader", some "goes_on"))
  F_Reader_mark : FunD K "mark" "Reader.mark" (defArgs s_Reader_mark) (defBody s_Reader_mark) (defScope s_Reader_mark) [] [] (He.fAd K ("Reader", some "mark")) (fdO K ("Reader", some "mark"))
  F_Reader_numeral : FunD K "numeral" "Reader.numeral" (defArgs s_Reader_numeral) (defBody s_Reader_numeral) (defScope s_Reader_numeral) [] [] (He.fAd K ("Reader", some "numeral")) (fdO K ("Reader", some "numeral"))
  F_Reader_number : FunD K "number" "Reader.number" (defArgs s_Reader_number) (defBody s_Reader_number) (defScope s_Reader_number) [] [] (He.fAd K ("Reader", some "number")) (fdO K ("Reader", some "number"))
  F_Reader_end : FunD K "end" "Reader.end" (defArgs s_Reader_end) (defBody s_Reader_end) (defScope s_Reader_end) [] [] (He.fAd K ("Reader", some "end")) (fdO K ("Reader", some "end"))
  g_is_variable_word : mg "is_variable_word" = some (.ref (He.fAd K ("is_variable_word", none)))
  F_is_variable_word : FunD K "is_variable_word" "is_variable_word" (defArgs s_is_variable_word) (defBody s_is_variable_word) (defScope s_is_variable_word) [] [] (He.fAd K ("is_variable_word", none)) (fdO K ("is_variable_word", none))
  g_take_variable : mg "take_variable" = some (.ref (He.fAd K ("take_variable", none)))
  F_take_variable : FunD K "take_variable" "take_variable" (defArgs s_take_variable) (defBody s_take_variable) (defScope s_take_variable) [] [] (He.fAd K ("take_variable", none)) (fdO K ("take_variable", none))
  g_take_literal : mg "take_literal" = some (.ref (He.fAd K ("take_literal", none)))
  F_take_literal : FunD K "take_literal" "take_literal" (defArgs s_take_literal) (defBody s_take_literal) (defScope s_take_literal) [] [] (He.fAd K ("take_literal", none)) (fdO K ("take_literal", none))
  g_take_weight : mg "take_weight" = some (.ref (He.fAd K ("take_weight", none)))
  F_take_weight : FunD K "take_weight" "take_weight" (defArgs s_take_weight) (defBody s_take_weight) (defScope s_take_weight) [] [] (He.fAd K ("take_weight", none)) (fdO K ("take_weight", none))
  g_take_terms : mg "take_terms" = some (.ref (He.fAd K ("take_terms", none)))
  F_take_terms : FunD K "take_terms" "take_terms" (defArgs s_take_terms) (defBody s_take_terms) (defScope s_take_terms) [] [] (He.fAd K ("take_terms", none)) (fdO K ("take_terms", none))
  g_take_sum : mg "take_sum" = some (.ref (He.fAd K ("take_sum", none)))
  F_take_sum : FunD K "take_sum" "take_sum" (defArgs s_take_sum) (defBody s_take_sum) (defScope s_take_sum) [] [] (He.fAd K ("take_sum", none)) (fdO K ("take_sum", none))
  g_take_price : mg "take_price" = some (.ref (He.fAd K ("take_price", none)))
  F_take_price : FunD K "take_price" "take_price" (defArgs s_take_price) (defBody s_take_price) (defScope s_take_price) [] [] (He.fAd K ("take_price", none)) (fdO K ("take_price", none))
  g_read_problem : mg "read_problem" = some (.ref (He.fAd K ("read_problem", none)))
  F_read_problem : FunD K "read_problem" "read_problem" (defArgs s_read_problem) (defBody s_read_problem) (defScope s_read_problem) [] [] (He.fAd K ("read_problem", none)) (fdO K ("read_problem", none))
  g__law_deck : mg "_law_deck" = some (.ref (He.fAd K ("_law_deck", none)))
  F_l_deck : FunD K "_law_deck" "_law_deck" (defArgs s_l_deck) (defBody s_l_deck) (defScope s_l_deck) [] [] (He.fAd K ("_law_deck", none)) (fdO K ("_law_deck", none))
  g__law_pick : mg "_law_pick" = some (.ref (He.fAd K ("_law_pick", none)))
  F_l_pick : FunD K "_law_pick" "_law_pick" (defArgs s_l_pick) (defBody s_l_pick) (defScope s_l_pick) [] [] (He.fAd K ("_law_pick", none)) (fdO K ("_law_pick", none))
  g__law_alike : mg "_law_alike" = some (.ref (He.fAd K ("_law_alike", none)))
  F_l_alike : FunD K "_law_alike" "_law_alike" (defArgs s_l_alike) (defBody s_l_alike) (defScope s_l_alike) [] [] (He.fAd K ("_law_alike", none)) (fdO K ("_law_alike", none))
  g__law_sum : mg "_law_sum" = some (.ref (He.fAd K ("_law_sum", none)))
  F_l_sum : FunD K "_law_sum" "_law_sum" (defArgs s_l_sum) (defBody s_l_sum) (defScope s_l_sum) [] [] (He.fAd K ("_law_sum", none)) (fdO K ("_law_sum", none))
  g__law_tied : mg "_law_tied" = some (.ref (He.fAd K ("_law_tied", none)))
  F_l_tied : FunD K "_law_tied" "_law_tied" (defArgs s_l_tied) (defBody s_l_tied) (defScope s_l_tied) [] [] (He.fAd K ("_law_tied", none)) (fdO K ("_law_tied", none))
  g__law_split : mg "_law_split" = some (.ref (He.fAd K ("_law_split", none)))
  F_l_split : FunD K "_law_split" "_law_split" (defArgs s_l_split) (defBody s_l_split) (defScope s_l_split) [] [] (He.fAd K ("_law_split", none)) (fdO K ("_law_split", none))
  g__law_number_words : mg "_law_number_words" = some (.ref (He.fAd K ("_law_number_words", none)))
  F_l_number_words : FunD K "_law_number_words" "_law_number_words" (defArgs s_l_number_words) (defBody s_l_number_words) (defScope s_l_number_words) [] [] (He.fAd K ("_law_number_words", none)) (fdO K ("_law_number_words", none))
  g__law_literal_words : mg "_law_literal_words" = some (.ref (He.fAd K ("_law_literal_words", none)))
  F_l_literal_words : FunD K "_law_literal_words" "_law_literal_words" (defArgs s_l_literal_words) (defBody s_l_literal_words) (defScope s_l_literal_words) [] [] (He.fAd K ("_law_literal_words", none)) (fdO K ("_law_literal_words", none))
  g__law_terms_words : mg "_law_terms_words" = some (.ref (He.fAd K ("_law_terms_words", none)))
  F_l_terms_words : FunD K "_law_terms_words" "_law_terms_words" (defArgs s_l_terms_words) (defBody s_l_terms_words) (defScope s_l_terms_words) [] [] (He.fAd K ("_law_terms_words", none)) (fdO K ("_law_terms_words", none))
  g__law_problem_words : mg "_law_problem_words" = some (.ref (He.fAd K ("_law_problem_words", none)))
  F_l_problem_words : FunD K "_law_problem_words" "_law_problem_words" (defArgs s_l_problem_words) (defBody s_l_problem_words) (defScope s_l_problem_words) [] [] (He.fAd K ("_law_problem_words", none)) (fdO K ("_law_problem_words", none))
  g__law_spread : mg "_law_spread" = some (.ref (He.fAd K ("_law_spread", none)))
  F_l_spread : FunD K "_law_spread" "_law_spread" (defArgs s_l_spread) (defBody s_l_spread) (defScope s_l_spread) [] [] (He.fAd K ("_law_spread", none)) (fdO K ("_law_spread", none))
  g__law_now : mg "_law_now" = some (.ref (He.fAd K ("_law_now", none)))
  F_l_now : FunD K "_law_now" "_law_now" (defArgs s_l_now) (defBody s_l_now) (defScope s_l_now) [] [] (He.fAd K ("_law_now", none)) (fdO K ("_law_now", none))
  g__law_stop : mg "_law_stop" = some (.ref (He.fAd K ("_law_stop", none)))
  F_l_stop : FunD K "_law_stop" "_law_stop" (defArgs s_l_stop) (defBody s_l_stop) (defScope s_l_stop) [] [] (He.fAd K ("_law_stop", none)) (fdO K ("_law_stop", none))
  g__law_on : mg "_law_on" = some (.ref (He.fAd K ("_law_on", none)))
  F_l_on : FunD K "_law_on" "_law_on" (defArgs s_l_on) (defBody s_l_on) (defScope s_l_on) [] [] (He.fAd K ("_law_on", none)) (fdO K ("_law_on", none))
  g__law_is_numeral : mg "_law_is_numeral" = some (.ref (He.fAd K ("_law_is_numeral", none)))
  F_l_is_numeral : FunD K "_law_is_numeral" "_law_is_numeral" (defArgs s_l_is_numeral) (defBody s_l_is_numeral) (defScope s_l_is_numeral) [] [] (He.fAd K ("_law_is_numeral", none)) (fdO K ("_law_is_numeral", none))
  g__law_numeral : mg "_law_numeral" = some (.ref (He.fAd K ("_law_numeral", none)))
  F_l_numeral : FunD K "_law_numeral" "_law_numeral" (defArgs s_l_numeral) (defBody s_l_numeral) (defScope s_l_numeral) [] [] (He.fAd K ("_law_numeral", none)) (fdO K ("_law_numeral", none))
  g__law_number : mg "_law_number" = some (.ref (He.fAd K ("_law_number", none)))
  F_l_number : FunD K "_law_number" "_law_number" (defArgs s_l_number) (defBody s_l_number) (defScope s_l_number) [] [] (He.fAd K ("_law_number", none)) (fdO K ("_law_number", none))
  g__law_literal : mg "_law_literal" = some (.ref (He.fAd K ("_law_literal", none)))
  F_l_literal : FunD K "_law_literal" "_law_literal" (defArgs s_l_literal) (defBody s_l_literal) (defScope s_l_literal) [] [] (He.fAd K ("_law_literal", none)) (fdO K ("_law_literal", none))
  g__law_terms : mg "_law_terms" = some (.ref (He.fAd K ("_law_terms", none)))
  F_l_terms : FunD K "_law_terms" "_law_terms" (defArgs s_l_terms) (defBody s_l_terms) (defScope s_l_terms) [] [] (He.fAd K ("_law_terms", none)) (fdO K ("_law_terms", none))
  g__law_need : mg "_law_need" = some (.ref (He.fAd K ("_law_need", none)))
  F_l_need : FunD K "_law_need" "_law_need" (defArgs s_l_need) (defBody s_l_need) (defScope s_l_need) [] [] (He.fAd K ("_law_need", none)) (fdO K ("_law_need", none))
  g__law_read : mg "_law_read" = some (.ref (He.fAd K ("_law_read", none)))
  F_l_read : FunD K "_law_read" "_law_read" (defArgs s_l_read) (defBody s_l_read) (defScope s_l_read) [] [] (He.fAd K ("_law_read", none)) (fdO K ("_law_read", none))
  g__law_told : mg "_law_told" = some (.ref (He.fAd K ("_law_told", none)))
  F_l_told : FunD K "_law_told" "_law_told" (defArgs s_l_told) (defBody s_l_told) (defScope s_l_told) [] [] (He.fAd K ("_law_told", none)) (fdO K ("_law_told", none))
  g__law_mixed : mg "_law_mixed" = some (.ref (He.fAd K ("_law_mixed", none)))
  F_l_mixed : FunD K "_law_mixed" "_law_mixed" (defArgs s_l_mixed) (defBody s_l_mixed) (defScope s_l_mixed) [] [] (He.fAd K ("_law_mixed", none)) (fdO K ("_law_mixed", none))
  g_law : mg "law" = some (.ref (He.fAd K ("law", none)))
  F_law : FunD K "law" "law" (defArgs s_law) (defBody s_law) (defScope s_law) [] [] (He.fAd K ("law", none)) (fdO K ("law", none))
  z_len : mg "len" = none
  z_int : mg "int" = none
  z_str : mg "str" = none
  z_abs : mg "abs" = none
  z_min : mg "min" = none
  z_sum : mg "sum" = none
  z_all : mg "all" = none
  z_sorted : mg "sorted" = none
  z_list : mg "list" = none
  z_tuple : mg "tuple" = none
  z_bool : mg "bool" = none
  z_range : mg "range" = none
  z_isinstance : mg "isinstance" = none
  z_ValueError : mg "ValueError" = none
  c_MOST_VARIABLES : ∃ t, mg "MOST_VARIABLES" = some (.int 60 t)
  c_MOST_SUMS : ∃ t, mg "MOST_SUMS" = some (.int 300 t)
  c_MOST_NUMBER : ∃ t, mg "MOST_NUMBER" = some (.int 1000000 t)
  c_SMALL_LETTERS : ∃ t, mg "SMALL_LETTERS" = some (.str "abcdefghijklmnopqrstuvwxyz" t)
  c_DIGITS : ∃ t, mg "DIGITS" = some (.str "0123456789" t)
  c_BLANKS : ∃ t, mg "BLANKS" = some (.str " \n" t)
  c_LONGEST_NUMERAL : ∃ t, mg "LONGEST_NUMERAL" = some (.int 30 t)
  g_Reader : mg "Reader" = some (.ref (He.ga K "Reader"))
  cl_Reader : Cls K (He.ga K "Reader")
  n_Reader_many : NoAttr K (He.ga K "Reader") "many"
  n_Reader_words : NoAttr K (He.ga K "Reader") "words"
  n_Reader_at : NoAttr K (He.ga K "Reader") "at"
  mk_Reader : Mk K (He.ga K "Reader") (He.fAd K ("Reader", some "__init__"))
  m_Reader_word : Meth K (He.ga K "Reader") "word" (He.fAd K ("Reader", some "word"))
  m_Reader_stop : Meth K (He.ga K "Reader") "stop" (He.fAd K ("Reader", some "stop"))
  m_Reader_taken : Meth K (He.ga K "Reader") "taken" (He.fAd K ("Reader", some "taken"))
  m_Reader_goes_on : Meth K (He.ga K "Reader") "goes_on" (He.fAd K ("Reader", some "goes_on"))
  m_Reader_mark : Meth K (He.ga K "Reader") "mark" (He.fAd K ("Reader", some "mark"))
  m_Reader_numeral : Meth K (He.ga K "Reader") "numeral" (He.fAd K ("Reader", some "numeral"))
  m_Reader_number : Meth K (He.ga K "Reader") "number" (He.fAd K ("Reader", some "number"))
  m_Reader_end : Meth K (He.ga K "Reader") "end" (He.fAd K ("Reader", some "end"))
  bt : PySem.BTX.BtTxt P K mg (He.ga K "BadText") (He.fAd K ("BadText", some "__init__"))
  g_SumError : mg "SumError" = some (.ref (He.ga K "SumError"))
  kSum : PySem.W.kitCls K (.ref (He.ga K "BadText")) (.ref (He.ga K "SumError")) = some true
  kVal : PySem.W.kitCls K (.ref (He.ga K "BadText")) (.type "ValueError") = some true
  neSum : (Value.ref (He.ga K "BadText") == Value.ref (He.ga K "SumError")) = false
section
variable {P : Program} {w : World} {K : PySem.W.Frag} {mg : Str → Option Value} {base : Heap}
theorem b_words_in (T : Txt P K mg) : Binds K (fdO K ("words_in", none)) ["text"] [] := T.F_words_in.bindsN fun _ _ _ _ _ _ us hl => match us, hl with | [_], _ => rfl
theorem b_is_numeral (T : Txt P K mg) : Binds K (fdO K ("is_numeral", none)) ["word"] [] := T.F_is_numeral.bindsN fun _ _ _ _ _ _ us hl => match us, hl with | [_], _ => rfl
theorem b_Reader___init__ (T : Txt P K mg) : Binds K (fdO K ("Reader", some "__init__")) ["self", "text"] [] := T.F_Reader___init__.bindsN fun _ _ _ _ _ _ us hl => match us, hl with | [_, _], _ => rfl
theorem b_Reader_word (T : Txt P K mg) : Binds K (fdO K ("Reader", some "word")) ["self"] [] := T.F_Reader_word.bindsN fun _ _ _ _ _ _ us hl => match us, hl with | [_], _ => rfl
theorem b_Reader_stop (T : Txt P K mg) : Binds K (fdO K ("Reader", some "stop")) ["self"] [] := T.F_Reader_stop.bindsN fun _ _ _ _ _ _ us hl => match us, hl with | [_], _ => rfl
theorem b_Reader_taken (T : Txt P K mg) : Binds K (fdO K ("Reader", some "taken")) ["self"] [] := T.F_Reader_taken.bindsN fun _ _ _ _ _ _ us hl => match us, hl with | [_], _ => rfl
theorem b_Reader_goes_on (T : Txt P K mg) : Binds K (fdO K ("Reader", some "goes_on")) ["self", "sign"] [] := T.F_Reader_goes_on.bindsN fun _ _ _ _ _ _ us hl => match us, hl with | [_, _], _ => rfl
theorem b_Reader_mark (T : Txt P K mg) : Binds K (fdO K ("Reader", some "mark")) ["self", "sign"] [] := T.F_Reader_mark.bindsN fun _ _ _ _ _ _ us hl => match us, hl with | [_, _], _ => rfl
theorem b_Reader_numeral (T : Txt P K mg) : Binds K (fdO K ("Reader", some "numeral")) ["self", "most"] [] := T.F_Reader_numeral.bindsN fun _ _ _ _ _ _ us hl => match us, hl with | [_, _], _ => rfl
theorem b_Reader_number (T : Txt P K mg) : Binds K (fdO K ("Reader", some "number")) ["self", "least", "most"] [] := T.F_Reader_number.bindsN fun _ _ _ _ _ _ us hl => match us, hl with | [_, _, _], _ => rfl
theorem b_Reader_end (T : Txt P K mg) : Binds K (fdO K ("Reader", some "end")) ["self"] [] := T.F_Reader_end.bindsN fun _ _ _ _ _ _ us hl => match us, hl with | [_], _ => rfl
theorem b_is_variable_word (T : Txt P K mg) : Binds K (fdO K ("is_variable_word", none)) ["word"] [] := T.F_is_variable_word.bindsN fun _ _ _ _ _ _ us hl => match us, hl with | [_], _ => rfl
theorem b_take_variable (T : Txt P K mg) : Binds K (fdO K ("take_variable", none)) ["reader", "least", "most"] [] := T.F_take_variable.bindsN fun _ _ _ _ _ _ us hl => match us, hl with | [_, _, _], _ => rfl
theorem b_take_literal (T : Txt P K mg) : Binds K (fdO K ("take_literal", none)) ["reader", "least", "most"] [] := T.F_take_literal.bindsN fun _ _ _ _ _ _ us hl => match us, hl with | [_, _, _], _ => rfl
theorem b_take_weight (T : Txt P K mg) : Binds K (fdO K ("take_weight", none)) ["reader", "most"] [] := T.F_take_weight.bindsN fun _ _ _ _ _ _ us hl => match us, hl with | [_, _], _ => rfl
theorem b_take_terms (T : Txt P K mg) : Binds K (fdO K ("take_terms", none)) ["reader", "last", "most"] [] := T.F_take_terms.bindsN fun _ _ _ _ _ _ us hl => match us, hl with | [_, _, _], _ => rfl
theorem b_take_sum (T : Txt P K mg) : Binds K (fdO K ("take_sum", none)) ["reader", "last", "most"] [] := T.F_take_sum.bindsN fun _ _ _ _ _ _ us hl => match us, hl with | [_, _, _], _ => rfl
theorem b_take_price (T : Txt P K mg) : Binds K (fdO K ("take_price", none)) ["reader", "last", "most"] [] := T.F_take_price.bindsN fun _ _ _ _ _ _ us hl => match us, hl with | [_, _, _], _ => rfl
theorem b_read_problem (T : Txt P K mg) : Binds K (fdO K ("read_problem", none)) ["text"] [] := T.F_read_problem.bindsN fun _ _ _ _ _ _ us hl => match us, hl with | [_], _ => rfl
theorem b_l_deck (T : Txt P K mg) : Binds K (fdO K ("_law_deck", none)) ["script"] [] := T.F_l_deck.bindsN fun _ _ _ _ _ _ us hl => match us, hl with | [_], _ => rfl
theorem b_l_pick (T : Txt P K mg) : Binds K (fdO K ("_law_pick", none)) ["deck", "many"] [] := T.F_l_pick.bindsN fun _ _ _ _ _ _ us hl => match us, hl with | [_, _], _ => rfl
theorem b_l_alike (T : Txt P K mg) : Binds K (fdO K ("_law_alike", none)) ["told", "due"] [] := T.F_l_alike.bindsN fun _ _ _ _ _ _ us hl => match us, hl with | [_, _], _ => rfl
theorem b_l_sum (T : Txt P K mg) : Binds K (fdO K ("_law_sum", none)) ["deck", "many", "size", "most"] [] := T.F_l_sum.bindsN fun _ _ _ _ _ _ us hl => match us, hl with | [_, _, _, _], _ => rfl
theorem b_l_tied (T : Txt P K mg) : Binds K (fdO K ("_law_tied", none)) ["deck", "many"] [] := T.F_l_tied.bindsN fun _ _ _ _ _ _ us hl => match us, hl with | [_, _], _ => rfl
theorem b_l_split (T : Txt P K mg) : Binds K (fdO K ("_law_split", none)) ["text"] [] := T.F_l_split.bindsN fun _ _ _ _ _ _ us hl => match us, hl with | [_], _ => rfl
theorem b_l_number_words (T : Txt P K mg) : Binds K (fdO K ("_law_number_words", none)) ["number"] [] := T.F_l_number_words.bindsN fun _ _ _ _ _ _ us hl => match us, hl with | [_], _ => rfl
theorem b_l_literal_words (T : Txt P K mg) : Binds K (fdO K ("_law_literal_words", none)) ["literal"] [] := T.F_l_literal_words.bindsN fun _ _ _ _ _ _ us hl => match us, hl with | [_], _ => rfl
theorem b_l_terms_words (T : Txt P K mg) : Binds K (fdO K ("_law_terms_words", none)) ["terms"] [] := T.F_l_terms_words.bindsN fun _ _ _ _ _ _ us hl => match us, hl with | [_], _ => rfl
theorem b_l_problem_words (T : Txt P K mg) : Binds K (fdO K ("_law_problem_words", none)) ["problem"] [] := T.F_l_problem_words.bindsN fun _ _ _ _ _ _ us hl => match us, hl with | [_], _ => rfl
theorem b_l_spread (T : Txt P K mg) : Binds K (fdO K ("_law_spread", none)) ["deck", "words"] [] := T.F_l_spread.bindsN fun _ _ _ _ _ _ us hl => match us, hl with | [_, _], _ => rfl
theorem b_l_now (T : Txt P K mg) : Binds K (fdO K ("_law_now", none)) ["reader"] [] := T.F_l_now.bindsN fun _ _ _ _ _ _ us hl => match us, hl with | [_], _ => rfl
theorem b_l_stop (T : Txt P K mg) : Binds K (fdO K ("_law_stop", none)) ["reader"] [] := T.F_l_stop.bindsN fun _ _ _ _ _ _ us hl => match us, hl with | [_], _ => rfl
theorem b_l_on (T : Txt P K mg) : Binds K (fdO K ("_law_on", none)) ["reader", "sign"] [] := T.F_l_on.bindsN fun _ _ _ _ _ _ us hl => match us, hl with | [_, _], _ => rfl
theorem b_l_is_numeral (T : Txt P K mg) : Binds K (fdO K ("_law_is_numeral", none)) ["word"] [] := T.F_l_is_numeral.bindsN fun _ _ _ _ _ _ us hl => match us, hl with | [_], _ => rfl
theorem b_l_numeral (T : Txt P K mg) : Binds K (fdO K ("_law_numeral", none)) ["reader", "least", "most"] [] := T.F_l_numeral.bindsN fun _ _ _ _ _ _ us hl => match us, hl with | [_, _, _], _ => rfl
theorem b_l_number (T : Txt P K mg) : Binds K (fdO K ("_law_number", none)) ["reader"] [] := T.F_l_number.bindsN fun _ _ _ _ _ _ us hl => match us, hl with | [_], _ => rfl
theorem b_l_literal (T : Txt P K mg) : Binds K (fdO K ("_law_literal", none)) ["reader", "least", "most"] [] := T.F_l_literal.bindsN fun _ _ _ _ _ _ us hl => match us, hl with | [_, _, _], _ => rfl
theorem b_l_terms (T : Txt P K mg) : Binds K (fdO K ("_law_terms", none)) ["reader", "last"] [] := T.F_l_terms.bindsN fun _ _ _ _ _ _ us hl => match us, hl with | [_, _], _ => rfl
theorem b_l_need (T : Txt P K mg) : Binds K (fdO K ("_law_need", none)) ["reader", "sign"] [] := T.F_l_need.bindsN fun _ _ _ _ _ _ us hl => match us, hl with | [_, _], _ => rfl
theorem b_l_read (T : Txt P K mg) : Binds K (fdO K ("_law_read", none)) ["text"] [] := T.F_l_read.bindsN fun _ _ _ _ _ _ us hl => match us, hl with | [_], _ => rfl
theorem b_l_told (T : Txt P K mg) : Binds K (fdO K ("_law_told", none)) ["text"] [] := T.F_l_told.bindsN fun _ _ _ _ _ _ us hl => match us, hl with | [_], _ => rfl
theorem b_l_mixed (T : Txt P K mg) : Binds K (fdO K ("_law_mixed", none)) ["deck", "words"] [] := T.F_l_mixed.bindsN fun _ _ _ _ _ _ us hl => match us, hl with | [_, _], _ => rfl
theorem b_law (T : Txt P K mg) : Binds K (fdO K ("law", none)) ["script"] [] := T.F_law.bindsN fun _ _ _ _ _ _ us hl => match us, hl with | [_], _ => rfl
end
end K77
/-! Some more rules over the hand layer, and the words of k77's promises. -/
namespace L2
open PySem PySem.Spec PyProof.Rows
section
variable {X : Cx}
/-! ### a list, a tuple held against the empty one -/
def rEqNil (K : PySem.W.Frag) (neg : Bool) : R2 := fun x y H Q => ∃ a b xs, x = .ref a ∧ y = .ref b ∧ SqL K H a xs ∧ SqL K H b [] ∧ Q (.bl (if neg then !xs.isEmpty else xs.isEmpty)) H
theorem op_eqNil (hu : X.A.units + 64 < cLine) : OpR X (compareOp .Eq) (rEqNil X.K false) := by
  intro pins s σ H x y v u Q I rx ry h
  obtain ⟨a, b, xs, rfl, rfl, ha, hb, q⟩ := h
  cases rx
  cases ry
  obtain ⟨its, r, p, _⟩ := I.list ha
  obtain ⟨its2, r2, p2, _⟩ := I.list hb
  cases r2
  have fin : ∀ k : Bool, xs.isEmpty = k → EP X pins σ Q (.bool k) s := fun k e => ⟨.bl k, H, I, rfl, by rw [← e]; exact q⟩
  cases r with
  | nil => exact SeqAt.eq_listAt (e := fun _ => true) p.isList p2.isList rfl (by omega) (fun j h1 _ => absurd h1 (Nat.not_lt_zero _)) (fin true rfl)
  | cons _ _ => exact SeqAt.eq_list_lengthsAt p.isList p2.isList (by simp) (by omega) (fin false rfl)
theorem op_neNil (hu : X.A.units + 64 < cLine) : OpR X (compareOp .NotEq) (rEqNil X.K true) := by
  intro pins s σ H x y v u Q I rx ry h
  obtain ⟨a, b, xs, rfl, rfl, ha, hb, q⟩ := h
  cases rx
  cases ry
  obtain ⟨its, r, p, _⟩ := I.list ha
  obtain ⟨its2, r2, p2, _⟩ := I.list hb
  cases r2
  have fin : ∀ k : Bool, (!xs.isEmpty) = k → EP X pins σ Q (.bool k) s := fun k e => ⟨.bl k, H, I, rfl, by rw [← e]; exact q⟩
  cases r with
  | nil => exact SeqAt.RcNeAt.lists (e := fun _ => true) p.isList p2.isList rfl (by omega) (fun j h1 _ => absurd h1 (Nat.not_lt_zero _)) _ _ _ _ (fin false rfl)
  | cons _ _ => exact SeqAt.RcNeAt.lists_lengths p.isList p2.isList (by simp) (by omega) _ _ _ _ (fin true rfl)
/-! ### text times int -/
theorem op_mul_str : OpR X (binaryOp .Mult) (fun x y H Q => ∃ z n, x = .str z ∧ y = .int n ∧ MulOk z n ∧ Q (.str (Txt.mul z n)) H) := by
  intro pins s σ H x y v u Q I rx ry h
  obtain ⟨z, n, rfl, rfl, hok, q⟩ := h
  obtain ⟨t, rfl⟩ := rx
  obtain ⟨t', rfl⟩ := ry
  exact SB.mul hok fun t2 k => ⟨.str _, H, I.tok k, ⟨_, rfl⟩, q⟩
/-! ### f(k = v): keywords alone; what is raised is wished for at the caller's slots -/
section
variable {CX : CXT} {k : Nat} {f : Addr} {fd : FuncData} {ps ks : List Str} {sp : Sp} {E : St → XK} {x : Str} {p pos : Pos} {kws : List Keyword} {tk : TA} {g : List Value → List Value → List Value} {gV : List V → List V → List V}
def tCallKS (sp : Sp) (gV : List V → List V → List V) (E : St → XK) (tk : TA) : TE := fun σ H Q => tk σ H fun zs H2 => sp (gV [] zs) H2 Q (E σ)
theorem pe_callKS (F : FnOk X.prog X.w X.K X.mg X.base CX k f fd ps sp) (hr : Room k X.A) (hg : Gl X x) (hm : X.mg x = some (.ref f)) (hk : PySem.W.keepIn X.K (.ref f) = true) (hb : KBinds X.K fd ps ks g gV) (hx : ∀ σ, PassesAt CX X σ (E σ))
    (hkw : PK X kws tk) (hall : (backToKw pos (keywordEach kws X.env)).all (·.1.isSome) = true := by rfl) (hks : (backToKw pos (keywordEach kws X.env)).filterMap (·.1) = ks := by rfl)
    (hdb : (x == ("__debug__" : Str)) = false := by decide) (hpl : ((backTo pos (starEach [] X.env)).any (·.1) || (backToKw pos (keywordEach kws X.env)).any (·.1.isNone)) = false := by rfl) :
    PE X (.Call (.Name x p) [] kws pos) (tCallKS sp gV E tk) := by
  refine ⟨fun pins s σ H Q I h => ?_⟩
  refine wpAny_Call_Name_kw (ld_glob I hg hm ?_ hdb)
  refine PySem.W.callWith_KW0 (h₀ := X.base) I.ok.mod.kin hk hall ?_ hpl
  refine thn (hkw.run pos pins s σ H _ I h) fun ws s2 ⟨zs, H2, I2, rz, q2⟩ => ⟨I2.kIn, ?_⟩
  rw [hks]
  have r2 := hb.rel (vs := []) (us := []) .nil rz
  have hl : (g [] ws).length = ps.length := by rw [← r2.length]; exact F.len _ _ _ _ q2
  refine wpAny_call (codeAny_mono (F.run X.A X.stack s2 H2 ⟨[], ks.zip ws⟩ (g [] ws) (gV [] zs) Q (E σ) hr I2.env0 (hb.to s2 [] ws I2.kIn hl) r2 q2) fun r s' hq => ?_)
  cases r with
  | error e => exact hx σ pins H2 s2 e s' I2 hq
  | ok fl =>
    cases fl with
    | ret u => exact I2.after hq
    | next => exact False.elim hq
    | brk => exact False.elim hq
    | cont => exact False.elim hq
end
end
end L2
namespace K77
open PySem PySem.Spec PyProof.Rows L2
/-! ### heaps -/
/-- all but what stands at two places -/
def But (d c : Addr) (H H' : Hp) : Prop := ∀ b o, b ≠ d → b ≠ c → H b = some o → H' b = some o
theorem But.refl (d c : Addr) (H : Hp) : But d c H H := fun _ _ _ _ h => h
theorem But.trans {d c : Addr} {H H1 H2 : Hp} (a : But d c H H1) (b : But d c H1 H2) : But d c H H2 := fun x o h1 h2 h => b x o h1 h2 (a x o h1 h2 h)
theorem But.new {d c p : Addr} {H H1 : Hp} {o : HO} (a : But d c H H1) (hp : H p = none) : But d c H (upd H1 p o) := fun x u h1 h2 h => by
  rw [upd_ne (ne_of_none h hp)]
  exact a x u h1 h2 h
theorem But.put {d c p : Addr} {H H1 : Hp} {o : HO} (a : But d c H H1) (hp : p = d ∨ p = c) : But d c H (upd H1 p o) := fun x u h1 h2 h => by
  have : x ≠ p := by rcases hp with rfl | rfl <;> assumption
  rw [upd_ne this]
  exact a x u h1 h2 h
theorem Same.but {d c : Addr} {H H' : Hp} (h : Same H H') : But d c H H' := fun x o _ _ e => h x o e
theorem Same.new {p : Addr} {H H1 : Hp} {o : HO} (a : Same H H1) (hp : H p = none) : Same H (upd H1 p o) := fun x u h => by
  rw [upd_ne (ne_of_none h hp)]
  exact a x u h
theorem But.free {d c p : Addr} {H H' : Hp} (a : But d c H H') (h1 : p ≠ d) (h2 : p ≠ c) (h : H' p = none) : H p = none := by
  cases e : H p with
  | none => rfl
  | some o =>
    rw [a p o h1 h2 e] at h
    cases h
/-- every tuple stands -/
def Tups (H H' : Hp) : Prop := ∀ b xs, H b = some (.tup xs) → H' b = some (.tup xs)
theorem Tups.refl (H : Hp) : Tups H H := fun _ _ h => h
theorem Tups.trans {H H1 H2 : Hp} (a : Tups H H1) (b : Tups H1 H2) : Tups H H2 := fun x o h => b x o (a x o h)
theorem Same.tups {H H' : Hp} (h : Same H H') : Tups H H' := fun x o e => h x _ e
theorem But.tups {d c : Addr} {H H' : Hp} (h : But d c H H') (hd : ∀ xs, H d ≠ some (.tup xs)) (hc : ∀ xs, H c ≠ some (.tup xs)) : Tups H H' := fun b xs e =>
  h b _ (fun z => hd xs (z ▸ e)) (fun z => hc xs (z ▸ e)) e
end K77
namespace K77
open PySem PySem.Spec PyProof.Rows L2
/-- the deck: the list at d, its cells at c -/
structure DeckAt (d c : Addr) (H : Hp) : Prop where
  ne : d ≠ c
  at_ : ∃ (a b : Int), H d = some (.lst [.ref c, .int a, .int b])
  cells : ∃ ns : List Int, H c = some (.lst (ns.map V.int))
theorem DeckAt.put {d c p : Addr} {H : Hp} {o : HO} (D : DeckAt d c H) (hp : H p = none) : DeckAt d c (upd H p o) := by
  obtain ⟨ne, ⟨a, b, h1⟩, ⟨ns, h2⟩⟩ := D
  exact ⟨ne, ⟨a, b, by rw [upd_ne (ne_of_none h1 hp)]; exact h1⟩, ⟨ns, by rw [upd_ne (ne_of_none h2 hp)]; exact h2⟩⟩
theorem DeckAt.setD {d c : Addr} {H : Hp} {a b : Int} (D : DeckAt d c H) : DeckAt d c (upd H d (.lst [.ref c, .int a, .int b])) := by
  obtain ⟨ne, _, ⟨ns, h2⟩⟩ := D
  exact ⟨ne, ⟨a, b, upd_same⟩, ⟨ns, by rw [upd_ne ne.symm]; exact h2⟩⟩
theorem DeckAt.setC {d c : Addr} {H : Hp} {ns : List Int} (D : DeckAt d c H) : DeckAt d c (upd H c (.lst (ns.map V.int))) := by
  obtain ⟨ne, ⟨a, b, h1⟩, _⟩ := D
  exact ⟨ne, ⟨a, b, by rw [upd_ne ne]; exact h1⟩, ⟨ns, upd_same⟩⟩
theorem DeckAt.same {d c : Addr} {H H' : Hp} (D : DeckAt d c H) (s : Same H H') : DeckAt d c H' := by
  obtain ⟨ne, ⟨a, b, h1⟩, ⟨ns, h2⟩⟩ := D
  exact ⟨ne, ⟨a, b, s _ _ h1⟩, ⟨ns, s _ _ h2⟩⟩
theorem DeckAt.tups {d c : Addr} {H H' : Hp} (D : DeckAt d c H) (s : But d c H H') : Tups H H' := by
  obtain ⟨ne, ⟨a, b, h1⟩, ⟨ns, h2⟩⟩ := D
  refine s.tups (fun xs e => ?_) (fun xs e => ?_)
  · rw [h1] at e; cases e
  · rw [h2] at e; cases e
def spDeck (K : PySem.W.Frag) : Sp := fun vs H Q _ => ∃ (a : Addr) (ns : List Int), vs = [.ref a] ∧ SqL K H a (ns.map V.int) ∧ ns.length ≤ 63 ∧
  ∀ (d c : Addr) (H' : Hp), H d = none → H c = none → Same H H' → DeckAt d c H' → Q (.ref d) H'
def spPick : Sp := fun vs H Q _ => ∃ (d c : Addr) (many : Int), vs = [.ref d, .int many] ∧ DeckAt d c H ∧ 0 < many ∧ many < 1000000 ∧
  ∀ (r : Int) (H' : Hp), 0 ≤ r → r < many → DeckAt d c H' → But d c H H' → Q (.int r) H'
theorem map_get {α β : Type} {f : α → β} {l : List α} {i : Nat} {y : β} (h : (l.map f)[i]? = some y) : ∃ x, l[i]? = some x ∧ y = f x := by
  rw [List.getElem?_map] at h
  cases e : l[i]? with
  | none => rw [e] at h; cases h
  | some x => rw [e] at h; exact ⟨x, rfl, (Option.some.inj h).symm⟩
theorem take_snoc {α : Type} {l : List α} {i : Nat} {x : α} (h : l[i]? = some x) : l.take (i + 1) = l.take i ++ [x] := by
  rw [List.take_succ, h]
  rfl
section
variable {P : Program} {w : World} {K : PySem.W.Frag} {mg : Str → Option Value} {base : Heap}
theorem ok_l_deck (T : Txt P K mg) : FnOk P w K mg base CX0 1 (He.fAd K ("_law_deck", none)) (fdO K ("_law_deck", none)) ["script"] (spDeck K) := by
  refine T.F_l_deck.ok sc_l_deck (fun vs H Q E h => ?_) (fun cdv A outer s H vs Q E hr h => ?_)
  · obtain ⟨a, ns, rfl, _⟩ := h
    rfl
  obtain ⟨a, ns, rfl, hS, hlen, k⟩ := h
  refine ⟨_, PSs.nox (pss_one (ps_ret (pe_lst (pa_cons (pe_lc (own := [("cell", 1)]) (by rfl) sc_l_deck.nd (pi_list (pe_slice sl_list (pv 0) po_none (po_some pe_int))) (blkOk_by (own := [("cell", 1)]) (N := N_l_deck) (sc := defScope s_l_deck) (by decide +kernel)) (fun _ _ _ _ _ => (pg_name (i := 1) sc_l_deck.nd rfl (Or.inl rfl))) (fun _ _ _ _ _ => pts_nil) (fun _ _ _ _ _ => (pe_callTy call_int1 (by rfl) T.z_int (by decide +kernel) (pa_cons (pv 1) pa_nil)))) (pa_cons pe_int (pa_cons pe_int pa_nil)))))), ?_⟩
  refine ⟨_, rfl, _, rfl, a, _, rfl, hS, fun p np => ?_⟩
  have hcut : cutV (ns.map V.int) none (some 63) = ns.map V.int := by
    unfold cutV
    have e : HT.sIx (ns.map V.int).length (ns.map V.int).length (some (63 : Int)) = (ns.map V.int).length := by
      rw [show (63 : Int) = ((63 : Nat) : Int) from rfl, HT.sIx_nat, List.length_map]
      omega
    rw [e, HT.sIx_none, Nat.sub_zero, List.drop_zero, List.take_length]
  rw [hcut]
  refine ⟨p, rfl, ⟨_, SqL.of upd_same⟩, fun D nD => lc_list (K := K) (a := p) (xs := ns.map V.int) (fun i H' => H' p = some (.lst (ns.map V.int)) ∧ H' D = some (.lst ((ns.take i).map V.int)) ∧ ∀ b o, H b = some o → H' b = some o) ?_ ?_ ?_ ?_⟩
  · have npD : p ≠ D := ne_of_none upd_same nD
    refine ⟨by rw [upd_ne npD]; exact upd_same, upd_same, fun b o e => ?_⟩
    rw [upd_ne (fun z => by rw [upd_ne (by rintro rfl; rw [z, np] at e; cases e), ← z, e] at nD; cases nD), upd_ne (ne_of_none e np)]
    exact e
  · exact fun i H' _ h => SqL.of h.1
  · rintro i x H' hi ⟨h1, h2, h3⟩
    obtain ⟨n, hn, rfl⟩ := map_get hi
    have npD : p ≠ D := ne_of_none upd_same nD
    refine ⟨rfl, _, rfl, .inl ⟨_, rfl, _, h2, by have := (List.getElem?_eq_some_iff.mp hn).1; rw [List.length_map, List.length_take]; exact small1000 (by omega), ?_⟩⟩
    refine ⟨by rw [upd_ne npD]; exact h1, by rw [upd_same, take_snoc hn, List.map_append]; rfl, fun b o e => ?_⟩
    rw [upd_ne (fun z => by rw [z] at e; rw [upd_ne (ne_of_none upd_same nD).symm, e] at nD; cases nD)]
    exact h3 b o e
  · rintro H' ⟨h1, h2, h3⟩
    rw [List.length_map, List.take_length] at h2
    have nD' : H D = none := by
      cases e : H D with
      | none => rfl
      | some o => rw [upd_ne (fun z => by rw [z, np] at e; cases e), e] at nD; cases nD
    refine ⟨by show 3 ≤ sizeLine; decide, fun d nd => ?_⟩
    have ndD : D ≠ d := ne_of_none h2 nd
    refine k d D _ (by cases e : H d with | none => rfl | some o => rw [h3 _ _ e] at nd; cases nd) nD' (fun b o e => ?_) ⟨ndD.symm, ⟨_, _, upd_same⟩, ⟨ns, by rw [upd_ne ndD]; exact h2⟩⟩
    rw [upd_ne (ne_of_none (h3 _ _ e) nd)]
    exact h3 b o e
end
end K77
namespace K77
open PySem PySem.Spec PyProof.Rows L2
open C8 (pss_cut)
theorem fmod_lt {a b : Int} (h : 0 < b) : 0 ≤ a.fmod b ∧ a.fmod b < b := ⟨Int.fmod_nonneg_of_pos a h, Int.fmod_lt_of_pos a h⟩
section
variable {P : Program} {w : World} {K : PySem.W.Frag} {mg : Str → Option Value} {base : Heap}
/-- what stands behind the first part of pick: the deck, all else -/
theorem ok_l_pick (T : Txt P K mg) : FnOk P w K mg base CX0 1 (He.fAd K ("_law_pick", none)) (fdO K ("_law_pick", none)) ["deck", "many"] spPick := by
  refine T.F_l_pick.ok sc_l_pick (fun vs H Q E h => ?_) (fun cdv A outer s H vs Q E hr h => ?_)
  · obtain ⟨d, c, many, rfl, _⟩ := h
    rfl
  obtain ⟨d, c, many, rfl, D, hm0, hm1, k⟩ := h
  refine ⟨_, PSs.nox (pss_cons (ps_set (i := 2) sc_l_pick.nd rfl (Or.inl rfl) (pe_ix ix_list (pv 0) pe_int (fun _ _ => rfl)))
    (pss_cut (ps_if (PW.pt (pw_and (pt_cmpR op_lt (pe_ix ix_list (pv 0) pe_int (fun _ _ => rfl)) (pe_op op_pow pe_int pe_int) (nomark _)) (pw_and1 (pt_cmpR (op_neNil hr.units) (pv 2) (pe_lst pa_nil) (nomark _)))))
      (pss_cons (ps_set (i := 3) sc_l_pick.nd rfl (Or.inl rfl) (pe_bm PySem.F.plainAttrs_list PySem.F.slot_list_pop PySem.F.type_list_pop mt_popAt (pv 2) (pa_cons pe_int pa_nil)))
      (pss_cons (ps_set (i := 4) sc_l_pick.nd rfl (Or.inl rfl) (pe_op op_add (pe_op op_mul pe_int (pe_callB call_abs (by rfl) T.z_abs (by decide +kernel) (pa_cons (pv 3) pa_nil))) (pe_callTy call_int1 (by rfl) T.z_int (by decide +kernel) (pa_cons (pe_cmpR op_lt (pv 3) pe_int (nomark _)) pa_nil))))
      (pss_one (ps_if (pt_cmpR op_ge (pv 4) (pe_op op_pow pe_int pe_int) (nomark _))
        (pss_one (ps_asg (pe_op op_modN (pe_callTy call_int1 (by rfl) T.z_int (by decide +kernel) (pa_cons (pv 4) pa_nil)) (pe_op op_pow pe_int pe_int)) (pg_sub (pv 0) pe_int set_list)))
        (pss_one (ps_asg (pe_op op_modN (pe_callTy call_int1 (by rfl) T.z_int (by decide +kernel) (pa_cons (pe_op op_add (pe_op op_add (pe_op op_mul (pe_ix ix_list (pv 0) pe_int (fun _ _ => rfl)) pe_int) (pe_op op_mul (pe_op op_modN (pe_callTy call_int1 (by rfl) T.z_int (by decide +kernel) (pa_cons (pv 4) pa_nil)) pe_int) pe_int)) pe_int) pa_nil)) pe_int) (pg_sub (pv 0) pe_int set_list)))))))
      pss_nil)
    (pss_cons (ps_if (pt_cmpR op_ge (pe_ix ix_list (pv 0) pe_int (fun _ _ => rfl)) (pe_op op_pow pe_int pe_int) (nomark _))
      (pss_cons (ps_set (i := 5) sc_l_pick.nd rfl (Or.inl rfl) (pe_op op_modN (pe_callTy call_int1 (by rfl) T.z_int (by decide +kernel) (pa_cons (pe_ix ix_list (pv 0) pe_int (fun _ _ => rfl)) pa_nil)) (pv 1)))
      (pss_cons (ps_asg (pe_op op_fdivN (pe_ix ix_list (pv 0) pe_int (fun _ _ => rfl)) (pv 1)) (pg_sub (pv 0) pe_int set_list))
      (pss_one (ps_ret (pv 5)))))
      pss_nil)
    (pss_cons (ps_asg (pe_op op_modN (pe_callTy call_int1 (by rfl) T.z_int (by decide +kernel) (pa_cons (pe_op op_add (pe_op op_mul (pe_ix ix_list (pv 0) pe_int (fun _ _ => rfl)) pe_int) pe_int) pa_nil)) pe_int) (pg_sub (pv 0) pe_int set_list))
    (pss_one (ps_ret (pe_op op_modN (pe_callTy call_int1 (by rfl) T.z_int (by decide +kernel) (pa_cons (pe_op op_fdivN (pe_ix ix_list (pv 0) pe_int (fun _ _ => rfl)) pe_int) pa_nil)) (pv 1)))))))), ?_⟩
  obtain ⟨ne, ⟨a, b, hd⟩, ⟨ns, hc⟩⟩ := id D
  refine ⟨_, rfl, _, _, _, _, rfl, rfl, SqL.of hd, rfl, ?_⟩
  refine ⟨fun σ' H' => ∃ x y, σ' = [some (.ref d), some (.int many), some (.ref c), x, y, none] ∧ DeckAt d c H' ∧ But d c H H', ?_, ?_⟩
  · refine ⟨_, rfl, _, _, _, _, rfl, rfl, SqL.of hd, rfl, _, _, rfl, rfl, ⟨by decide, by decide, by decide⟩, _, _, rfl, rfl, _, rfl, ?_⟩
    refine ite2 (fun h1 => ?_) (fun h1 => ?_)
    · refine ⟨_, rfl, (by show 0 ≤ sizeLine; decide), fun p2 np2 => ?_⟩
      have hc2 : upd H p2 (.lst []) c = some (.lst (ns.map V.int)) := by rw [upd_ne (ne_of_none hc np2)]; exact hc
      have hd2 : upd H p2 (.lst []) d = some (.lst [.ref c, .int a, .int b]) := by rw [upd_ne (ne_of_none hd np2)]; exact hd
      have D2 : DeckAt d c (upd H p2 (.lst [])) := D.put np2
      have B2 : But d c H (upd H p2 (.lst [])) := (But.refl d c H).new np2
      refine ⟨_, _, _, rfl, rfl, SqL.of hc2, SqL.of upd_same, _, rfl, ?_⟩
      refine ite2 (fun h3 => ?_) (fun h3 => ?_)
      · obtain ⟨z, r, rfl⟩ : ∃ z r, ns = z :: r := by
          cases ns with
          | nil => exact absurd h3 (by decide)
          | cons z r => exact ⟨z, r, rfl⟩
        refine ⟨_, rfl, .inl ⟨rfl, _, SqL.of hc2⟩, _, _, _, 0, _, rfl, rfl, hc2, by decide, by decide, by simp [seqIndex?], rfl, ?_⟩
        have e0 : (List.map V.int (z :: r)).eraseIdx 0 = r.map V.int := rfl
        rw [e0]
        have D3 : DeckAt d c (upd (upd H p2 (.lst [])) c (.lst (r.map V.int))) := D2.setC
        have B3 := B2.put (o := .lst (r.map V.int)) (.inr rfl)
        have hd3 : (upd (upd H p2 (.lst [])) c (.lst (r.map V.int))) d = some (.lst [.ref c, .int a, .int b]) := by rw [upd_ne ne]; exact hd2
        refine ⟨_, rfl, _, rfl, _, _, rfl, rfl, .inl (by decide), _, rfl, _, _, rfl, rfl, .inr ⟨_, rfl, ?_⟩⟩
        refine ⟨_, _, rfl, rfl, _, rfl, _, _, rfl, rfl, ⟨by decide, by decide, by decide⟩, _, _, rfl, rfl, _, rfl, ?_⟩
        refine ite2 (fun h4 => ?_) (fun h4 => ?_)
        · refine ⟨_, rfl, .inl ⟨_, rfl, ?_⟩⟩
          refine ⟨_, _, rfl, rfl, ⟨by decide, by decide, by decide⟩, _, _, rfl, rfl, (by show _ ≠ (0 : Int); decide), _, rfl, _, _, _, _, rfl, rfl, hd3, rfl, ?_⟩
          exact ⟨_, _, rfl, D3.setD, B3.put (.inl rfl)⟩
        · refine ⟨_, rfl, _, _, _, _, rfl, rfl, SqL.of hd3, rfl, _, _, rfl, rfl, .inr (by decide), _, rfl, .inl ⟨_, rfl, ?_⟩⟩
          refine ⟨_, _, rfl, rfl, (by show _ ≠ (0 : Int); decide), _, _, rfl, rfl, .inr (by decide), _, _, rfl, rfl, _, _, rfl, rfl, .inl ⟨_, rfl, ?_⟩⟩
          refine ⟨_, _, rfl, rfl, (by show _ ≠ (0 : Int); decide), _, rfl, _, _, _, _, rfl, rfl, hd3, rfl, ?_⟩
          exact ⟨_, _, rfl, D3.setD, B3.put (.inl rfl)⟩
      · exact ⟨_, _, rfl, D2, B2⟩
    · refine iteF ?_
      exact ⟨_, _, rfl, D, But.refl d c H⟩
  · rintro σ' H' ⟨x, y, rfl, D1, B1⟩
    obtain ⟨_, ⟨a', b', hd'⟩, _⟩ := id D1
    refine ⟨_, rfl, _, _, _, _, rfl, rfl, SqL.of hd', rfl, _, _, rfl, rfl, ⟨by decide, by decide, by decide⟩, _, _, rfl, rfl, _, rfl, ?_⟩
    refine ite2 (fun h5 => ?_) (fun h5 => ?_)
    · refine ⟨_, rfl, _, _, _, _, rfl, rfl, SqL.of hd', rfl, .inl ⟨_, rfl, ?_⟩⟩
      refine ⟨_, rfl, _, _, rfl, rfl, (by omega), _, rfl, _, _, _, _, rfl, rfl, SqL.of hd', rfl, _, rfl, _, _, rfl, rfl, ⟨by omega, by omega⟩, _, rfl, _, _, _, _, rfl, rfl, hd', rfl, _, rfl, ?_⟩
      exact k _ _ (fmod_lt hm0).1 (fmod_lt hm0).2 D1.setD (B1.put (.inl rfl))
    · refine ⟨_, rfl, _, _, _, _, rfl, rfl, SqL.of hd', rfl, _, _, rfl, rfl, .inr (by decide), _, _, rfl, rfl, .inl ⟨_, rfl, ?_⟩⟩
      refine ⟨_, _, rfl, rfl, (by show _ ≠ (0 : Int); decide), _, rfl, _, _, _, _, rfl, rfl, hd', rfl, _, rfl, _, _, _, _, rfl, rfl, SqL.of upd_same, rfl, _, _, rfl, rfl, ⟨by decide, by decide⟩, .inl ⟨_, rfl, ?_⟩⟩
      refine ⟨_, rfl, _, _, rfl, rfl, (by omega), ?_⟩
      exact k _ _ (fmod_lt hm0).1 (fmod_lt hm0).2 D1.setD (B1.put (.inl rfl))
end
end K77
namespace K77
open PySem PySem.Spec PyProof.Rows L2
open C8 (pss_cut)
theorem rel_str (x : Str) (t : Tok) : RelV (.str x) (Value.str x t) := ⟨_, rfl⟩
theorem rel_int (x : Int) (t : Tok) : RelV (.int x) (Value.int x t) := ⟨_, rfl⟩
theorem ndec {p : Prop} [Decidable p] (h : ¬ decide p = true) : ¬ p := fun hp => h (decide_eq_true hp)
/-- a text by its codes -/
def S (w : List Nat) : Str := ⟨w.toArray⟩
theorem S_len (w : List Nat) : (S w).length = w.length := List.size_toArray
theorem S_list (w : List Nat) : (S w).cps.toList = w := rfl
theorem S_at {w : List Nat} {i : Nat} {c : Nat} (h : w[i]? = some c) : atI (S w).cps.toList (i : Int) = some c := atI_nat h
theorem S_inj {a b : List Nat} : S a = S b ↔ a = b := ⟨fun h => by have := congrArg (fun z : Str => z.cps.toList) h; exact this, fun h => by rw [h]⟩
theorem getD_at {w : List Nat} {i : Nat} {c : Nat} (h : w[i]? = some c) : w.getD i 0 = c := by rw [List.getD_eq_getElem?_getD, h]; rfl
theorem S_cut {w : List Nat} {i j : Nat} (h1 : i ≤ j) (h2 : j ≤ w.length) : cutS (S w) (some (i : Int)) (some (j : Int)) = S (cut w i j) := by
  unfold cutS
  rw [HT.sIx_nat, HT.sIx_nat, S_len]
  rw [Nat.min_eq_left h2, Nat.min_eq_left (Nat.le_trans h1 h2)]
  rfl
theorem e_low : (PySem.Str.ofString "abcdefghijklmnopqrstuvwxyz").cps.toList = lowers := by decide +kernel
theorem e_dig : (PySem.Str.ofString "0123456789").cps.toList = digs := by decide +kernel
theorem e_sp : (PySem.Str.ofString " \n").cps.toList = [32, 10] := by decide +kernel
theorem e_run : (PySem.Str.ofString "abcdefghijklmnopqrstuvwxyz0123456789").cps.toList = lowers ++ digs := by decide +kernel
theorem isRun_iff {c : Nat} : isRun c = true ↔ c ∈ lowers ∨ c ∈ digs := by unfold isRun; rw [Bool.or_eq_true, decide_eq_true_eq, decide_eq_true_eq]
theorem isSp_iff {c : Nat} : isSp c = true ↔ c ∈ [32, 10] := by unfold isSp; simp
theorem get_some {α : Type} {l : List α} {i : Nat} (h : i < l.length) : ∃ c, l[i]? = some c := ⟨l[i], List.getElem?_eq_getElem h⟩
theorem while_in {c : TT} {tb : TS} {D : Ends} {σ : L2.St} {H : Hp} (Pv : L2.St → Hp → Prop) (μ : L2.St → Hp → Nat) (h0 : Pv σ H)
    (hs : ∀ σ H, Pv σ H → c σ H fun b H1 => if b = true then ∃ N : L2.St → Hp → Prop, (∀ σ' H', N σ' H' → ∃ m', m' < μ σ H ∧ m' = μ σ' H' ∧ Pv σ' H') ∧ tb { D with nx := N, ct := N, bk := D.nx } σ H1 else D.nx σ H1) : tWhile c tb D σ H :=
  ⟨fun m σ H => m = μ σ H ∧ Pv σ H, ⟨_, rfl, h0⟩, by rintro m σ H ⟨rfl, p⟩; exact hs σ H p⟩
/-- the words of a list, each a tuple -/
def WordsL (H : Hp) (xs : List V) (ws : List (Wd × Nat)) : Prop := xs.length = ws.length ∧ ∀ (i : Nat) (p : Wd × Nat), ws[i]? = some p → ∃ a : Addr, xs[i]? = some (V.ref a) ∧ H a = some (HO.tup [V.str (S p.1), V.int (p.2 : Int)])
theorem WordsL.mono {H H' : Hp} {xs : List V} {ws : List (Wd × Nat)} (h : WordsL H xs ws) (s : Tups H H') : WordsL H' xs ws := ⟨h.1, fun i p e => by
  obtain ⟨a, h1, h2⟩ := h.2 i p e
  exact ⟨a, h1, s _ _ h2⟩⟩
theorem WordsL.snoc {H : Hp} {xs : List V} {ws : List (Wd × Nat)} {a : Addr} {p : Wd × Nat} (h : WordsL H xs ws) (ha : H a = some (.tup [.str (S p.1), .int (p.2 : Int)])) : WordsL H (xs ++ [.ref a]) (ws ++ [p]) := by
  refine ⟨by rw [List.length_append, List.length_append, h.1]; rfl, fun i q e => ?_⟩
  by_cases hi : i < ws.length
  · rw [List.getElem?_append_left hi] at e
    obtain ⟨b, h1, h2⟩ := h.2 i q e
    exact ⟨b, by rw [List.getElem?_append_left (by rw [h.1]; exact hi)]; exact h1, h2⟩
  · have hl := (List.getElem?_eq_some_iff.mp e).1
    rw [List.length_append] at hl
    have hi' : i = ws.length := by simp at hl; omega
    subst hi'
    rw [List.getElem?_concat_length] at e
    cases e
    exact ⟨a, by rw [← h.1, List.getElem?_concat_length], ha⟩
theorem WordsL.nil (H : Hp) : WordsL H [] [] := ⟨rfl, fun i p e => by simp at e⟩
def spWords (K : PySem.W.Frag) : Sp := fun vs H Q _ => ∃ (t : List Nat), vs = [.str (S t)] ∧ t.length < sizeLine ∧
  ∀ (p : Addr) (xs : List V) (H' : Hp), Same H H' → H p = none → H' p = some (.lst xs) → WordsL H' xs (toks t 0) → Q (.ref p) H'
/-- what a walk through a text holds at a place -/
structure WIn (t : List Nat) (H : Hp) (p : Addr) (i : Nat) (H' : Hp) (pre : List (Wd × Nat)) (xs : List V) : Prop where
  le : i ≤ t.length
  sm : Same H H'
  at_ : H' p = some (.lst xs)
  ws : WordsL H' xs pre
  eq : pre ++ toks t i = toks t 0
  ln : xs.length ≤ i
theorem WIn.start {t : List Nat} {H : Hp} {p : Addr} (np : H p = none) : WIn t H p 0 (upd H p (.lst [])) [] [] := ⟨Nat.zero_le _, Same.new (Same.refl H) np, upd_same, WordsL.nil _, rfl, Nat.le_refl _⟩
theorem WIn.skip {t : List Nat} {H H' : Hp} {p : Addr} {i : Nat} {pre : List (Wd × Nat)} {xs : List V} (w : WIn t H p i H' pre xs) (h : i < t.length) (hs : isSp (t.getD i 0) = true) : WIn t H p (tokEnd t i) H' pre xs :=
  ⟨tokEnd_le h, w.sm, w.at_, w.ws, by rw [← w.eq, toks_step h, if_pos hs]; rfl, Nat.le_trans w.ln (Nat.le_of_lt (tokEnd_gt t i))⟩
theorem WIn.word {t : List Nat} {H H' : Hp} {p a : Addr} {i : Nat} {pre : List (Wd × Nat)} {xs : List V} (w : WIn t H p i H' pre xs) (np : H p = none) (h : i < t.length) (hs : isSp (t.getD i 0) = false) (na : H' a = none) :
    WIn t H p (tokEnd t i) (upd (upd H' a (.tup [.str (S (cut t i (tokEnd t i))), .int (i : Int)])) p (.lst (xs ++ [.ref a]))) (pre ++ [(cut t i (tokEnd t i), i)]) (xs ++ [.ref a]) := by
  have ap : a ≠ p := (ne_of_none w.at_ na).symm
  have tu : Tups H' (upd (upd H' a (.tup [.str (S (cut t i (tokEnd t i))), .int (i : Int)])) p (.lst (xs ++ [.ref a]))) := fun b ys e => by
    have h1 : b ≠ p := fun z => by rw [z, w.at_] at e; cases e
    rw [upd_ne h1, upd_ne (ne_of_none e na)]
    exact e
  refine ⟨tokEnd_le h, fun b o e => ?_, upd_same, (w.ws.mono tu).snoc (by rw [upd_ne ap]; exact upd_same), ?_, ?_⟩
  · rw [upd_ne (ne_of_none e np), upd_ne (ne_of_none (w.sm _ _ e) na)]
    exact w.sm _ _ e
  · rw [← w.eq, toks_step h, hs, List.append_assoc]
    rfl
  · rw [List.length_append]
    have := w.ln
    have := tokEnd_gt t i
    show xs.length + 1 ≤ _
    omega
section
variable {P : Program} {w : World} {K : PySem.W.Frag} {mg : Str → Option Value} {base : Heap}
theorem ok_words_in (T : Txt P K mg) : FnOk P w K mg base CX0 1 (He.fAd K ("words_in", none)) (fdO K ("words_in", none)) ["text"] (spWords K) := by
  refine T.F_words_in.ok sc_words_in (fun vs H Q E h => ?_) (fun cdv A outer s H vs Q E hr h => ?_)
  · obtain ⟨t, rfl, _⟩ := h
    rfl
  obtain ⟨t, rfl, hl, k⟩ := h
  have hl' : (S t).length ≤ sizeLine := by rw [S_len]; omega
  have eS : ((S t).length : Int) = (t.length : Int) := by rw [S_len]
  refine ⟨_, PSs.nox (pss_cons (ps_par (i := 1) (j := 2) (by rfl) sc_words_in.nd rfl rfl (by decide) rfl rfl (pa_cons (pe_lst pa_nil) (pa_cons pe_int pa_nil)) (by rfl))
    (pss_cons (ps_while PassesOwn.never (pt_cmpR op_lt (pv 2) (pe_callB call_len_str (by rfl) T.z_len (by decide +kernel) (pa_cons (pv 0) pa_nil)) (nomark _))
      (pss_cons (ps_set (i := 3) sc_words_in.nd rfl (Or.inl rfl) (pe_op op_add (pv 2) pe_int))
      (pss_cut (ps_if (PW.pt (pw_or (pt_cmpR op_in_sign (pe_ix ix_str (pv 0) (pv 2) (fun _ _ => rfl)) (pe_glob (by rfl) T.c_SMALL_LETTERS.choose_spec (rel_str _ _)) (by rfl)) (pw_or1 (pt_cmpR op_in_sign (pe_ix ix_str (pv 0) (pv 2) (fun _ _ => rfl)) (pe_glob (by rfl) T.c_DIGITS.choose_spec (rel_str _ _)) (by rfl)))))
        (pss_one (ps_while PassesOwn.never (PW.pt (pw_and (pt_cmpR op_lt (pv 3) (pe_callB call_len_str (by rfl) T.z_len (by decide +kernel) (pa_cons (pv 0) pa_nil)) (nomark _)) (pw_and1 (PW.pt (pw_or (pt_cmpR op_in_sign (pe_ix ix_str (pv 0) (pv 3) (fun _ _ => rfl)) (pe_glob (by rfl) T.c_SMALL_LETTERS.choose_spec (rel_str _ _)) (by rfl)) (pw_or1 (pt_cmpR op_in_sign (pe_ix ix_str (pv 0) (pv 3) (fun _ _ => rfl)) (pe_glob (by rfl) T.c_DIGITS.choose_spec (rel_str _ _)) (by rfl))))))))
          (pss_one (ps_aug (i := 3) sc_words_in.nd rfl (Or.inl rfl) pe_int ip_add))))
        pss_nil)
      (pss_cut (ps_if (pt_cmpR op_notIn_sign (pe_ix ix_str (pv 0) (pv 2) (fun _ _ => rfl)) (pe_glob (by rfl) T.c_BLANKS.choose_spec (rel_str _ _)) (by rfl))
        (pss_one (ps_expr (pe_bm PySem.F.plainAttrs_list PySem.F.slot_list_append PySem.F.type_list_append mt_append (pv 1) (pa_cons (pe_tup (pa_cons (pe_slice sl_str (pv 0) (po_some (pv 2)) (po_some (pv 3))) (pa_cons (pv 2) pa_nil))) pa_nil))))
        pss_nil)
      (pss_one (ps_set (i := 2) sc_words_in.nd rfl (Or.inl rfl) (pv 3)))))))
    (pss_one (ps_ret (pv 1))))), ?_⟩
  refine ⟨(by show 0 ≤ sizeLine; decide), fun p1 np1 => ?_⟩
  refine ⟨_, _, rfl, ?_⟩
  refine while_in (fun σ' H' => ∃ (i : Nat) (z : Option V) (pre : List (Wd × Nat)) (xs : List V), σ' = [some (.str (S t)), some (.ref p1), some (.int (i : Int)), z] ∧ WIn t H p1 i H' pre xs) (fun σ' _ => match σ' with
    | [_, _, some (.int i), _] => t.length - i.toNat
    | _ => 0) ⟨0, none, [], [], rfl, WIn.start np1⟩ ?_
  rintro σ' H' ⟨i, z, pre, xs, rfl, W⟩
  refine ⟨_, rfl, _, rfl, _, rfl, hl', _, _, rfl, rfl, _, rfl, ?_⟩
  refine ite2 (fun h2 => ?_) (fun h2 => ?_)
  · have hi : i < t.length := by have := of_decide_eq_true h2; omega
    obtain ⟨c, hc⟩ := get_some hi
    have hg := getD_at hc
    refine ⟨_, fun _ _ q => q, ?_⟩
    refine ⟨_, rfl, _, _, rfl, rfl, ?_⟩
    refine ⟨fun σ2 H2 => H2 = H' ∧ σ2 = [some (.str (S t)), some (.ref p1), some (.int (i : Int)), some (.int ((tokEnd t i : Nat) : Int))], ?_, ?_⟩
    · refine ⟨_, rfl, _, rfl, _, _, c, rfl, rfl, hl', S_at hc, _, _, rfl, rfl, _, rfl, ?_⟩
      refine ite2 (fun h3 => ?_) (fun h3 => ?_)
      · have hr1 : isRun c = true := isRun_iff.mpr (.inl (by rw [← e_low]; exact of_decide_eq_true h3))
        refine iteT ?_
        refine while_in (fun σ2 H2 => H2 = H' ∧ ∃ e : Nat, e ≤ t.length ∧ runEnd t (i + 1) = runEnd t e ∧ σ2 = [some (.str (S t)), some (.ref p1), some (.int (i : Int)), some (.int (e : Int))]) (fun σ2 _ => match σ2 with
              | [_, _, _, some (.int e)] => t.length - e.toNat
              | _ => 0) ⟨rfl, i + 1, hi, rfl, rfl⟩ ?_
        rintro σ2 H2 ⟨rfl, e, he, heq, rfl⟩
        have fin : (∀ d, t[e]? = some d → isRun d = false) → tokEnd t i = e := fun h => by unfold tokEnd; rw [hg, if_pos hr1, heq, runEnd_stop h]
        refine ⟨_, rfl, _, rfl, _, rfl, hl', _, _, rfl, rfl, _, rfl, ?_⟩
        refine ite2 (fun h4 => ?_) (fun h4 => ?_)
        · have he' : e < t.length := by have := of_decide_eq_true h4; omega
          obtain ⟨d, hd⟩ := get_some he'
          have up : isRun d = true → ((∃ e1 : Nat, e1 ≤ t.length ∧ runEnd t (i + 1) = runEnd t e1 ∧ ([some (.str (S t)), some (.ref p1), some (.int (i : Int)), some (.int ((e : Int) + 1))] : L2.St) = [some (.str (S t)), some (.ref p1), some (.int (i : Int)), some (.int (e1 : Int))])) := fun q => ⟨e + 1, he', by rw [heq, runEnd_go hd q], rfl⟩
          have less : t.length - (e + 1) < t.length - e := by omega
          refine ⟨_, rfl, _, rfl, _, _, d, rfl, rfl, hl', S_at hd, _, _, rfl, rfl, _, rfl, ?_⟩
          refine ite2 (fun h5 => ?_) (fun h5 => ?_)
          · refine iteT ?_
            refine ⟨_, fun _ _ q => q, ?_⟩
            refine ⟨_, rfl, _, _, rfl, rfl, ?_⟩
            exact ⟨_, less, rfl, rfl, up (isRun_iff.mpr (.inl (by rw [← e_low]; exact of_decide_eq_true h5)))⟩
          · refine ⟨_, rfl, _, rfl, _, _, d, rfl, rfl, hl', S_at hd, _, _, rfl, rfl, _, rfl, ?_⟩
            refine ite2 (fun h6 => ?_) (fun h6 => ?_)
            · refine ⟨_, fun _ _ q => q, ?_⟩
              refine ⟨_, rfl, _, _, rfl, rfl, ?_⟩
              exact ⟨_, less, rfl, rfl, up (isRun_iff.mpr (.inr (by rw [← e_dig]; exact of_decide_eq_true h6)))⟩
            · refine ⟨rfl, ?_⟩
              rw [fin (fun d' hd' => ?_)]
              rw [hd] at hd'
              cases hd'
              cases hh : isRun d with
              | false => rfl
              | true => exact absurd (isRun_iff.mp hh) (by rw [← e_low, ← e_dig]; exact fun q => q.elim (ndec h5) (ndec h6))
        · have he' : ¬ e < t.length := by have := ndec h4; omega
          refine iteF ?_
          refine ⟨rfl, ?_⟩
          rw [fin (fun d' hd' => absurd (List.getElem?_eq_some_iff.mp hd').1 he')]
      · refine ⟨_, rfl, _, rfl, _, _, c, rfl, rfl, hl', S_at hc, _, _, rfl, rfl, _, rfl, ?_⟩
        refine ite2 (fun h7 => ?_) (fun h7 => ?_)
        · have hr1 : isRun c = true := isRun_iff.mpr (.inr (by rw [← e_dig]; exact of_decide_eq_true h7))
          refine while_in (fun σ2 H2 => H2 = H' ∧ ∃ e : Nat, e ≤ t.length ∧ runEnd t (i + 1) = runEnd t e ∧ σ2 = [some (.str (S t)), some (.ref p1), some (.int (i : Int)), some (.int (e : Int))]) (fun σ2 _ => match σ2 with
                | [_, _, _, some (.int e)] => t.length - e.toNat
                | _ => 0) ⟨rfl, i + 1, hi, rfl, rfl⟩ ?_
          rintro σ2 H2 ⟨rfl, e, he, heq, rfl⟩
          have fin : (∀ d, t[e]? = some d → isRun d = false) → tokEnd t i = e := fun h => by unfold tokEnd; rw [hg, if_pos hr1, heq, runEnd_stop h]
          refine ⟨_, rfl, _, rfl, _, rfl, hl', _, _, rfl, rfl, _, rfl, ?_⟩
          refine ite2 (fun h4 => ?_) (fun h4 => ?_)
          · have he' : e < t.length := by have := of_decide_eq_true h4; omega
            obtain ⟨d, hd⟩ := get_some he'
            have up : isRun d = true → ((∃ e1 : Nat, e1 ≤ t.length ∧ runEnd t (i + 1) = runEnd t e1 ∧ ([some (.str (S t)), some (.ref p1), some (.int (i : Int)), some (.int ((e : Int) + 1))] : L2.St) = [some (.str (S t)), some (.ref p1), some (.int (i : Int)), some (.int (e1 : Int))])) := fun q => ⟨e + 1, he', by rw [heq, runEnd_go hd q], rfl⟩
            have less : t.length - (e + 1) < t.length - e := by omega
            refine ⟨_, rfl, _, rfl, _, _, d, rfl, rfl, hl', S_at hd, _, _, rfl, rfl, _, rfl, ?_⟩
            refine ite2 (fun h5 => ?_) (fun h5 => ?_)
            · refine iteT ?_
              refine ⟨_, fun _ _ q => q, ?_⟩
              refine ⟨_, rfl, _, _, rfl, rfl, ?_⟩
              exact ⟨_, less, rfl, rfl, up (isRun_iff.mpr (.inl (by rw [← e_low]; exact of_decide_eq_true h5)))⟩
            · refine ⟨_, rfl, _, rfl, _, _, d, rfl, rfl, hl', S_at hd, _, _, rfl, rfl, _, rfl, ?_⟩
              refine ite2 (fun h6 => ?_) (fun h6 => ?_)
              · refine ⟨_, fun _ _ q => q, ?_⟩
                refine ⟨_, rfl, _, _, rfl, rfl, ?_⟩
                exact ⟨_, less, rfl, rfl, up (isRun_iff.mpr (.inr (by rw [← e_dig]; exact of_decide_eq_true h6)))⟩
              · refine ⟨rfl, ?_⟩
                rw [fin (fun d' hd' => ?_)]
                rw [hd] at hd'
                cases hd'
                cases hh : isRun d with
                | false => rfl
                | true => exact absurd (isRun_iff.mp hh) (by rw [← e_low, ← e_dig]; exact fun q => q.elim (ndec h5) (ndec h6))
          · have he' : ¬ e < t.length := by have := ndec h4; omega
            refine iteF ?_
            refine ⟨rfl, ?_⟩
            rw [fin (fun d' hd' => absurd (List.getElem?_eq_some_iff.mp hd').1 he')]
        · have hr1 : isRun c = false := by
            cases hh : isRun c with
            | false => rfl
            | true => exact absurd (isRun_iff.mp hh) (by rw [← e_low, ← e_dig]; exact fun q => q.elim (ndec h3) (ndec h7))
          refine ⟨rfl, ?_⟩
          rw [show tokEnd t i = i + 1 by unfold tokEnd; rw [hg, hr1, if_neg Bool.false_ne_true]]
          rfl
    · rintro σ2 H2 ⟨rfl, rfl⟩
      have hT := tokEnd_gt t i
      have hT2 := tokEnd_le hi
      refine ⟨fun σ2 H3 => ∃ pre' xs', WIn t H p1 (tokEnd t i) H3 pre' xs' ∧ σ2 = [some (.str (S t)), some (.ref p1), some (.int (i : Int)), some (.int ((tokEnd t i : Nat) : Int))], ?_, ?_⟩
      · refine ⟨_, rfl, _, rfl, _, _, c, rfl, rfl, hl', S_at hc, _, _, rfl, rfl, _, rfl, ?_⟩
        refine ite2 (fun h11 => ?_) (fun h11 => ?_)
        · have hsp : isSp (t.getD i 0) = false := by
            rw [hg]
            cases q : isSp c with
            | false => rfl
            | true =>
              rw [show decide (c ∈ (PySem.Str.ofString " \n").cps.toList) = true by rw [e_sp]; exact decide_eq_true (isSp_iff.mp q)] at h11
              cases h11
          refine ⟨_, rfl, .inl ⟨rfl, _, SqL.of W.at_⟩, _, rfl, _, rfl, _, rfl, _, rfl, _, rfl, _, rfl, hl', _, rfl, (by show 2 ≤ sizeLine; decide), fun p12 np12 => ?_⟩
          have np : p12 ≠ p1 := (ne_of_none W.at_ np12).symm
          refine ⟨_, _, _, rfl, rfl, (by rw [upd_ne np.symm]; exact W.at_), (by have := W.ln; omega), ?_⟩
          rw [S_cut (Nat.le_of_lt hT) hT2]
          exact ⟨_, _, W.word np1 hi hsp np12, rfl⟩
        · have hsp : isSp (t.getD i 0) = true := by
            rw [hg]
            cases q : isSp c with
            | true => rfl
            | false =>
              rw [show decide (c ∈ (PySem.Str.ofString " \n").cps.toList) = false by rw [e_sp]; exact decide_eq_false (fun z => by rw [isSp_iff.mpr z] at q; cases q)] at h11
              exact absurd rfl h11
          exact ⟨_, _, W.skip hi hsp, rfl⟩
      · rintro σ2 H3 ⟨pre', xs', W', rfl⟩
        refine ⟨_, rfl, t.length - tokEnd t i, ?_, rfl, tokEnd t i, _, pre', xs', rfl, W'⟩
        show t.length - (tokEnd t i) < t.length - i
        omega
  · have hi : i = t.length := by have := ndec h2; have := W.le; omega
    refine ⟨_, rfl, ?_⟩
    refine k p1 xs H' W.sm np1 W.at_ ?_
    have := W.eq
    rw [toks_end (Nat.le_of_eq hi.symm), List.append_nil] at this
    rw [← this]
    exact W.ws
end
end K77
namespace K77
open PySem PySem.Spec PyProof.Rows L2
open C8 (pss_cut)
theorem lc_str {x : Str} {g : TG} {tt : TT} {te : TE} {vs : List Nat} {σ : L2.St} {H1 : Hp} {D : Addr} {Qd : Hp → Prop} (Pv : Nat → Hp → Prop) (h0 : Pv 0 (upd H1 D (.lst [])))
    (hs : ∀ i c H, x.cps.toList[i]? = some c → Pv i H → g (.str ⟨#[c]⟩) (wipe σ vs) H fun σ2 H2 => wipe σ2 vs = wipe σ vs ∧ tt σ2 H2 fun b H3 =>
      if b = true then te σ2 H3 fun y H4 => ∃ acc, H4 D = some (.lst acc) ∧ acc.length < sizeLine ∧ Pv (i + 1) (upd H4 D (.lst (acc ++ [y]))) else Pv (i + 1) H3) (hd : ∀ H, Pv x.cps.toList.length H → Qd H) :
    ∃ W : Nat → Nat → Hp → Prop, (∃ m, W 0 m (upd H1 D (.lst []))) ∧ ∀ i m H, W i m H →
      ((Its x).stop i H ∧ Qd H) ∨ ((Its x).go i H ∧ ∃ Nx : Hp → Prop, (∀ H', Nx H' → ∃ m', m' < m ∧ W (i + 1) m' H') ∧ ∀ y H', (Its x).yld i H y H' → g y (wipe σ vs) H' fun σ2 H2 => wipe σ2 vs = wipe σ vs ∧ tt σ2 H2 fun b H3 =>
        if b = true then te σ2 H3 fun y H4 => ∃ acc, H4 D = some (.lst acc) ∧ acc.length < sizeLine ∧ Nx (upd H4 D (.lst (acc ++ [y]))) else Nx H3) := by
  refine ⟨fun i m H => m = x.cps.toList.length - i ∧ i ≤ x.cps.toList.length ∧ Pv i H, ⟨x.cps.toList.length, by simp, Nat.zero_le _, h0⟩, ?_⟩
  rintro i m H ⟨rfl, hi, p⟩
  have el : x.cps.toList.length = x.cps.size := Array.length_toList
  by_cases hlt : i < x.cps.toList.length
  · refine .inr ⟨by rw [el] at hlt; exact hlt, Pv (i + 1), fun H' p' => ⟨x.cps.toList.length - (i + 1), by omega, rfl, hlt, p'⟩, fun y H' z => ?_⟩
    obtain ⟨rfl, c, hc, rfl⟩ := z
    exact hs i c _ (by rw [Array.getElem?_toList]; exact hc) p
  · have e : i = x.cps.toList.length := by omega
    subst e
    exact .inl ⟨by show x.cps.size ≤ _; omega, hd H p⟩
theorem strIs {w l : List Nat} {t : Str} (h : t = S l) : (V.str (S w) = V.str t) ↔ w = l := by
  rw [h]
  exact ⟨fun z => S_inj.mp (V.str.inj z), fun z => by rw [z]⟩
theorem z0 : (PySem.Str.ofString "0") = S [48] := by decide +kernel
theorem ze : (PySem.Str.ofString "") = S [] := by decide +kernel
theorem Same.free {H H1 : Hp} {p : Addr} (a : Same H H1) (h : H1 p = none) : H p = none := by
  cases e : H p with
  | none => rfl
  | some o => rw [a p o e] at h; cases h
theorem Same.nw {H H1 : Hp} {p : Addr} {o : HO} (a : Same H H1) (h : H1 p = none) : Same H (upd H1 p o) := Same.new a (Same.free a h)
def spNumeral : Sp := fun vs H Q _ => ∃ (w : Wd), vs = [.str (S w)] ∧ w.length ≤ sizeLine ∧ ∀ H', Same H H' → Q (.bl (isNum w)) H'
theorem isNum_no1 {w : Wd} (h : ¬ (1 ≤ w.length ∧ w.length ≤ 30)) : isNum w = false := by
  unfold isNum
  by_cases h1 : 1 ≤ w.length
  · have h2 : ¬ w.length ≤ 30 := fun z => h ⟨h1, z⟩
    rw [decide_eq_false h2]; simp
  · rw [decide_eq_false h1]; simp
theorem isNum_no2 {w : Wd} (h : (w.all fun c => decide (c ∈ digs)) = false) : isNum w = false := by
  unfold isNum
  rw [h]; simp
theorem isNum_yes {w : Wd} {c : Nat} (h1 : 1 ≤ w.length) (h2 : w.length ≤ 30) (h : (w.all fun c => decide (c ∈ digs)) = true) (hc : w[0]? = some c) : isNum w = (decide (w = [48]) || !decide (c = 48)) := by
  unfold isNum
  rw [h, decide_eq_true h1, decide_eq_true h2]
  have : w.head? = some c := by rw [List.head?_eq_getElem?]; exact hc
  rw [this]
  simp [bne, decide_not]
section
variable {P : Program} {w : World} {K : PySem.W.Frag} {mg : Str → Option Value} {base : Heap}
theorem ok_is_numeral (T : Txt P K mg) : FnOk P w K mg base CX0 1 (He.fAd K ("is_numeral", none)) (fdO K ("is_numeral", none)) ["word"] (spNumeral) := by
  refine T.F_is_numeral.ok sc_is_numeral (fun vs H Q E h => ?_) (fun cdv A outer s H vs Q E hr h => ?_)
  · obtain ⟨x, rfl, _⟩ := h
    rfl
  obtain ⟨x, rfl, hl, k⟩ := h
  have hx : (S x).length ≤ sizeLine := by rw [S_len]; exact hl
  refine ⟨_, PSs.nox (pss_cons (ps_if (PW.pt (pw_or (pt_not (pt_chain op_le op_le pe_int (pe_callB call_len_str (by rfl) T.z_len (by decide +kernel) (pa_cons (pv 0) pa_nil)) (pe_glob (by rfl) T.c_LONGEST_NUMERAL.choose_spec (rel_int _ _)))) (pw_or1 (pt_not (pt_val (pe_callB (cr_all rfl) (by rfl) T.z_all (by decide +kernel) (pa_cons (pe_lc (own := [("sign", 1)]) (by rfl) sc_is_numeral.nd (pi_str (pv 0)) (blkOk_by (own := [("sign", 1)]) (N := N_is_numeral) (sc := defScope s_is_numeral) (by decide +kernel)) (fun _ _ _ _ _ => (pg_name (i := 1) sc_is_numeral.nd rfl (Or.inl rfl))) (fun _ _ _ _ _ => pts_nil) (fun _ _ _ _ _ => (pe_cmpR op_in_sign (pv 1) (pe_glob (by rfl) T.c_DIGITS.choose_spec (rel_str _ _)) (by rfl)))) pa_nil)))))))
      (pss_one (ps_ret pe_bl))
      pss_nil)
    (pss_one (ps_ret (pe_or (pe_cmpR op_eq (pv 0) pe_str (nomark _)) (pe_one (pe_cmpR op_ne (pe_ix ix_str (pv 0) pe_int (fun _ _ => rfl)) pe_str (nomark _))))))), ?_⟩
  refine ⟨_, rfl, _, rfl, hx, _, _, rfl, rfl, _, rfl, ?_⟩
  refine ite2 (fun h1 => ?_) (fun h1 => ?_)
  · have h1 : 1 ≤ x.length := by have := of_decide_eq_true h1; rw [S_len] at this; omega
    refine ⟨_, _, rfl, rfl, _, rfl, ?_⟩
    refine ite2 (fun h2 => ?_) (fun h2 => ?_)
    · have h2 : ¬ x.length ≤ 30 := by
        intro z
        rw [show decide (((S x).length : Int) ≤ 30) = true from decide_eq_true (by rw [S_len]; omega)] at h2
        cases h2
      have := k H (Same.refl H)
      rw [isNum_no1 (fun z => h2 z.2)] at this
      exact this
    · have h2 : x.length ≤ 30 := by
        cases e : decide (((S x).length : Int) ≤ 30) with
        | true => have := of_decide_eq_true e; rw [S_len] at this; omega
        | false => rw [e] at h2; exact absurd rfl h2
      obtain ⟨c, hc⟩ := get_some (l := x) (i := 0) h1
      refine ⟨_, rfl, _, rfl, fun D3 nD3 => lc_str (x := S x) (fun i H' => H' D3 = some (.lst ((x.take i).map fun c => V.bl (decide (c ∈ digs)))) ∧ Same H H') ⟨upd_same, Same.new (Same.refl H) nD3⟩ ?_ ?_⟩
      · rintro i d H' hd ⟨hD, sm⟩
        have hd' : x[i]? = some d := hd
        have hi := (List.getElem?_eq_some_iff.mp hd').1
        refine ⟨rfl, _, rfl, _, _, rfl, rfl, _, hD, by rw [List.length_map, List.length_take]; exact small1000 (by omega), ?_, fun b o e => ?_⟩
        · rw [upd_same, take_snoc hd', List.map_append, e_dig]
          rfl
        · rw [upd_ne (ne_of_none e nD3)]
          exact sm b o e
      · rintro H' ⟨hD, sm⟩
        rw [S_list, List.take_length] at hD
        refine ⟨_, x.map fun c => decide (c ∈ digs), rfl, by rw [List.map_map]; exact SqL.of hD, _, rfl, ?_⟩
        have eall : (x.map fun c => decide (c ∈ digs)).all id = x.all fun c => decide (c ∈ digs) := by rw [List.all_map]; rfl
        rw [eall]
        cases hall : x.all fun c => decide (c ∈ digs) with
        | false =>
          refine iteT ?_
          have := k _ sm
          rw [isNum_no2 hall] at this
          exact this
        | true =>
          refine iteF ?_
          refine ⟨_, rfl, rfl, _, rfl, ?_⟩
          refine ite2 (fun h5 => ?_) (fun h5 => ?_)
          · have h6 := (strIs z0).mp (of_decide_eq_true h5)
            have e := isNum_yes h1 h2 hall hc
            rw [decide_eq_true h6] at e
            have := k _ sm
            rw [e] at this
            exact this
          · have h6 : ¬ x = [48] := fun z => ndec h5 ((strIs z0).mpr z)
            refine ⟨_, rfl, _, _, c, rfl, rfl, hx, S_at hc, rfl, ?_⟩
            have e := isNum_yes h1 h2 hall hc
            rw [decide_eq_false h6, Bool.false_or] at e
            have := k _ sm
            rw [e] at this
            have q : decide (V.str ⟨#[c]⟩ = V.str (PySem.Str.ofString "0")) = decide (c = 48) := by
              have := (strIs (w := [c]) z0)
              by_cases hh : c = 48
              · rw [decide_eq_true hh]; exact decide_eq_true (this.mpr (by rw [hh]))
              · rw [decide_eq_false hh]; exact decide_eq_false (fun z => hh (by have := this.mp z; injection this))
            rw [← q] at this
            exact this
  · refine ⟨_, rfl, ?_⟩
    have h1 : ¬ 1 ≤ x.length := fun z => ndec h1 (by rw [S_len]; omega)
    refine iteT ?_
    refine iteT ?_
    have := k H (Same.refl H)
    rw [isNum_no1 (fun z => h1 z.1)] at this
    exact this
theorem filter_nil {x : List Nat} (h : (x.filter fun c => !decide (c ∈ digs)) = []) : (x.all fun c => decide (c ∈ digs)) = true := by
  rw [List.all_eq_true]
  intro c hc
  have := List.filter_eq_nil_iff.mp h c hc
  simpa using this
theorem filter_not {x : List Nat} (h : (x.filter fun c => !decide (c ∈ digs)) ≠ []) : (x.all fun c => decide (c ∈ digs)) = false := by
  cases e : x.all fun c => decide (c ∈ digs) with
  | false => rfl
  | true =>
    refine absurd (List.filter_eq_nil_iff.mpr fun c hc => ?_) h
    have := List.all_eq_true.mp e c hc
    simp only [this, Bool.not_true, Bool.false_eq_true, not_false_eq_true]
theorem ok_l_is_numeral (T : Txt P K mg) : FnOk P w K mg base CX0 1 (He.fAd K ("_law_is_numeral", none)) (fdO K ("_law_is_numeral", none)) ["word"] (spNumeral) := by
  refine T.F_l_is_numeral.ok sc_l_is_numeral (fun vs H Q E h => ?_) (fun cdv A outer s H vs Q E hr h => ?_)
  · obtain ⟨x, rfl, _⟩ := h
    rfl
  obtain ⟨x, rfl, hl, k⟩ := h
  have hx : (S x).length ≤ sizeLine := by rw [S_len]; exact hl
  refine ⟨_, PSs.nox (pss_cons (ps_if (PW.pt (pw_or (pt_cmpR op_eq (pv 0) pe_str (nomark _)) (pw_or (pt_cmpR op_gt (pe_callB call_len_str (by rfl) T.z_len (by decide +kernel) (pa_cons (pv 0) pa_nil)) pe_int (nomark _)) (pw_or1 (pt_cmpR (op_neNil hr.units) (pe_lc (own := [("sign", 1)]) (by rfl) sc_l_is_numeral.nd (pi_str (pv 0)) (blkOk_by (own := [("sign", 1)]) (N := N_l_is_numeral) (sc := defScope s_l_is_numeral) (by decide +kernel)) (fun _ _ _ _ _ => (pg_name (i := 1) sc_l_is_numeral.nd rfl (Or.inl rfl))) (fun _ _ _ _ _ => (pts_one (pt_cmpR op_notIn_sign (pv 1) pe_str (by rfl)))) (fun _ _ _ _ _ => (pv 1))) (pe_lst pa_nil) (nomark _))))))
      (pss_one (ps_ret pe_bl))
      pss_nil)
    (pss_one (ps_ret (pe_or (pe_cmpR op_eq (pv 0) pe_str (nomark _)) (pe_one (pe_cmpR op_ne (pe_ix ix_str (pv 0) pe_int (fun _ _ => rfl)) pe_str (nomark _))))))), ?_⟩
  refine ⟨_, rfl, rfl, _, rfl, ?_⟩
  refine ite2 (fun h1 => ?_) (fun h1 => ?_)
  · have h1 := (strIs ze).mp (of_decide_eq_true h1)
    refine iteT ?_
    have := k H (Same.refl H)
    rw [isNum_no1 (fun z => by rw [h1] at z; exact absurd z.1 (by decide))] at this
    exact this
  · have h1 : 1 ≤ x.length := by
      cases x with
      | nil => exact absurd ((strIs (w := []) ze).mpr rfl) (ndec h1)
      | cons _ _ => simp
    refine ⟨_, rfl, _, rfl, hx, _, _, rfl, rfl, _, rfl, ?_⟩
    refine ite2 (fun h2 => ?_) (fun h2 => ?_)
    · have h2 : ¬ x.length ≤ 30 := by have := of_decide_eq_true h2; rw [S_len] at this; omega
      refine iteT ?_
      have := k H (Same.refl H)
      rw [isNum_no1 (fun z => h2 z.2)] at this
      exact this
    · have h2 : x.length ≤ 30 := by
        have := ndec h2
        rw [S_len] at this
        omega
      obtain ⟨c, hc⟩ := get_some (l := x) (i := 0) h1
      refine ⟨_, rfl, _, rfl, fun D3 nD3 => lc_str (x := S x) (fun i H' => H' D3 = some (.lst (((x.take i).filter fun c => !decide (c ∈ digs)).map fun c => V.str ⟨#[c]⟩)) ∧ Same H H') ⟨upd_same, Same.new (Same.refl H) nD3⟩ ?_ ?_⟩
      · rintro i d H' hd ⟨hD, sm⟩
        have hd' : x[i]? = some d := hd
        have hi := (List.getElem?_eq_some_iff.mp hd').1
        refine ⟨rfl, _, rfl, _, _, rfl, rfl, _, rfl, ?_⟩
        rw [e_dig]
        have et : (List.filter (fun c => !decide (c ∈ digs)) (List.take (i + 1) x)) = List.filter (fun c => !decide (c ∈ digs)) (List.take i x) ++ (if (!decide (d ∈ digs)) = true then [d] else []) := by
          rw [take_snoc hd', List.filter_append, List.filter_cons, List.filter_nil]
        refine ite2 (fun h3 => ?_) (fun h3 => ?_)
        · refine ⟨_, rfl, _, hD, ?_, ?_, fun b o e => ?_⟩
          · rw [List.length_map]
            have := (List.filter_sublist (l := List.take i x) (p := fun c => !decide (c ∈ digs))).length_le
            rw [List.length_take] at this
            exact small1000 (by omega)
          · rw [upd_same, et, if_pos h3, List.map_append]
            rfl
          · rw [upd_ne (ne_of_none e nD3)]
            exact sm b o e
        · refine ⟨?_, sm⟩
          rw [et, if_neg h3, List.append_nil]
          exact hD
      · rintro H' ⟨hD, sm⟩
        rw [S_list, List.take_length] at hD
        refine ⟨(by show 0 ≤ sizeLine; decide), fun p4 np4 => ?_⟩
        have sm : Same H (upd H' p4 (.lst [])) := Same.nw sm np4
        refine ⟨_, _, _, rfl, rfl, SqL.of (by rw [upd_ne (ne_of_none hD np4)]; exact hD), SqL.of upd_same, _, rfl, ?_⟩
        refine ite2 (fun h5 => ?_) (fun h5 => ?_)
        · have hall := filter_not (x := x) (fun z => by
            have h5 : (!(List.map (fun c => V.str ⟨#[c]⟩) (List.filter (fun c => !decide (c ∈ digs)) x)).isEmpty) = true := h5
            rw [z] at h5; cases h5)
          have := k _ sm
          rw [isNum_no2 hall] at this
          exact this
        · have hall := filter_nil (x := x) (by
            cases e : List.filter (fun c => !decide (c ∈ digs)) x with
            | nil => rfl
            | cons a b =>
              refine absurd ?_ h5
              show (!(List.map (fun c => V.str ⟨#[c]⟩) (List.filter (fun c => !decide (c ∈ digs)) x)).isEmpty) = true
              rw [e]; rfl)
          refine ⟨_, rfl, rfl, _, rfl, ?_⟩
          refine ite2 (fun h5 => ?_) (fun h5 => ?_)
          · have h6 := (strIs z0).mp (of_decide_eq_true h5)
            have e := isNum_yes h1 h2 hall hc
            rw [decide_eq_true h6] at e
            have := k _ sm
            rw [e] at this
            exact this
          · have h6 : ¬ x = [48] := fun z => ndec h5 ((strIs z0).mpr z)
            refine ⟨_, rfl, _, _, c, rfl, rfl, hx, S_at hc, rfl, ?_⟩
            have e := isNum_yes h1 h2 hall hc
            rw [decide_eq_false h6, Bool.false_or] at e
            have := k _ sm
            rw [e] at this
            have q : decide (V.str ⟨#[c]⟩ = V.str (PySem.Str.ofString "0")) = decide (c = 48) := by
              have := (strIs (w := [c]) z0)
              by_cases hh : c = 48
              · rw [decide_eq_true hh]; exact decide_eq_true (this.mpr (by rw [hh]))
              · rw [decide_eq_false hh]; exact decide_eq_false (fun z => hh (by have := this.mp z; injection this))
            rw [← q] at this
            exact this
theorem ok_l_split (T : Txt P K mg) : FnOk P w K mg base CX0 1 (He.fAd K ("_law_split", none)) (fdO K ("_law_split", none)) ["text"] (spWords K) := by
  refine T.F_l_split.ok sc_l_split (fun vs H Q E h => ?_) (fun cdv A outer s H vs Q E hr h => ?_)
  · obtain ⟨t, rfl, _⟩ := h
    rfl
  obtain ⟨t, rfl, hl, k⟩ := h
  have hl' : (S t).length ≤ sizeLine := by rw [S_len]; omega
  have eS : ((S t).length : Int) = (t.length : Int) := by rw [S_len]
  refine ⟨_, PSs.nox (pss_cons (ps_par3 (i := 1) (j := 2) (l := 3) (by rfl) sc_l_split.nd rfl rfl rfl (by decide) (by decide) (by decide) rfl rfl rfl (pa_cons pe_str (pa_cons (pe_lst pa_nil) (pa_cons pe_int pa_nil))) (by rfl))
    (pss_cons (ps_while PassesOwn.never (pt_cmpR op_lt (pv 3) (pe_callB call_len_str (by rfl) T.z_len (by decide +kernel) (pa_cons (pv 0) pa_nil)) (nomark _))
      (pss_cons (ps_set (i := 4) sc_l_split.nd rfl (Or.inl rfl) (pe_op op_add (pv 3) pe_int))
      (pss_cut (ps_while PassesOwn.never (PW.pt (pw_and (pt_cmpR op_in_sign (pe_ix ix_str (pv 0) (pv 3) (fun _ _ => rfl)) (pv 1) (by rfl)) (pw_and (pt_cmpR op_lt (pv 4) (pe_callB call_len_str (by rfl) T.z_len (by decide +kernel) (pa_cons (pv 0) pa_nil)) (nomark _)) (pw_and1 (pt_cmpR op_in_sign (pe_ix ix_str (pv 0) (pv 4) (fun _ _ => rfl)) (pv 1) (by rfl))))))
        (pss_one (ps_set (i := 4) sc_l_split.nd rfl (Or.inl rfl) (pe_op op_add (pv 4) pe_int))))
      (pss_cut (ps_if (pt_cmpR op_notIn_sign (pe_ix ix_str (pv 0) (pv 3) (fun _ _ => rfl)) pe_str (by rfl))
        (pss_one (ps_expr (pe_bm PySem.F.plainAttrs_list PySem.F.slot_list_append PySem.F.type_list_append mt_append (pv 2) (pa_cons (pe_tup (pa_cons (pe_slice sl_str (pv 0) (po_some (pv 3)) (po_some (pv 4))) (pa_cons (pv 3) pa_nil))) pa_nil))))
        pss_nil)
      (pss_one (ps_set (i := 3) sc_l_split.nd rfl (Or.inl rfl) (pv 4)))))))
    (pss_one (ps_ret (pv 2))))), ?_⟩
  refine ⟨(by show 0 ≤ sizeLine; decide), fun p1 np1 => ?_⟩
  refine ⟨_, _, _, rfl, ?_⟩
  generalize hrun : (PySem.Str.ofString "abcdefghijklmnopqrstuvwxyz0123456789") = rn
  have hrn : rn.cps.toList = lowers ++ digs := by rw [← hrun]; exact e_run
  have inrun : ∀ c, decide (c ∈ rn.cps.toList) = isRun c := fun c => by
    rw [hrn]
    cases hh : isRun c with
    | true => exact decide_eq_true (List.mem_append.mpr (isRun_iff.mp hh))
    | false => exact decide_eq_false fun z => by rw [isRun_iff.mpr (List.mem_append.mp z)] at hh; cases hh
  refine while_in (fun σ' H' => ∃ (i : Nat) (z : Option V) (pre : List (Wd × Nat)) (xs : List V), σ' = [some (.str (S t)), some (.str rn), some (.ref p1), some (.int (i : Int)), z] ∧ WIn t H p1 i H' pre xs) (fun σ' _ => match σ' with
    | [_, _, _, some (.int i), _] => t.length - i.toNat
    | _ => 0) ⟨0, none, [], [], rfl, WIn.start np1⟩ ?_
  rintro σ' H' ⟨i, z, pre, xs, rfl, W⟩
  refine ⟨_, rfl, _, rfl, _, rfl, hl', _, _, rfl, rfl, _, rfl, ?_⟩
  refine ite2 (fun h2 => ?_) (fun h2 => ?_)
  · have hi : i < t.length := by have := of_decide_eq_true h2; omega
    obtain ⟨c, hc⟩ := get_some hi
    have hg := getD_at hc
    refine ⟨_, fun _ _ q => q, ?_⟩
    refine ⟨_, rfl, _, _, rfl, rfl, ?_⟩
    refine ⟨fun σ2 H2 => H2 = H' ∧ σ2 = [some (.str (S t)), some (.str rn), some (.ref p1), some (.int (i : Int)), some (.int ((tokEnd t i : Nat) : Int))], ?_, ?_⟩
    · refine while_in (fun σ2 H2 => H2 = H' ∧ ∃ e : Nat, e ≤ t.length ∧ (isRun c = true → runEnd t (i + 1) = runEnd t e) ∧ (isRun c = false → e = i + 1) ∧ σ2 = [some (.str (S t)), some (.str rn), some (.ref p1), some (.int (i : Int)), some (.int (e : Int))]) (fun σ2 _ => match σ2 with
        | [_, _, _, _, some (.int e)] => t.length - e.toNat
        | _ => 0) ⟨rfl, i + 1, hi, fun _ => rfl, fun _ => rfl, rfl⟩ ?_
      rintro σ2 H2 ⟨rfl, e, he, heq, hne, rfl⟩
      refine ⟨_, rfl, _, rfl, _, _, c, rfl, rfl, hl', S_at hc, _, rfl, _, _, rfl, rfl, _, rfl, ?_⟩
      rw [inrun]
      refine ite2 (fun h3 => ?_) (fun h3 => ?_)
      · have fin : (∀ d, t[e]? = some d → isRun d = false) → tokEnd t i = e := fun h => by unfold tokEnd; rw [hg, if_pos h3, heq h3, runEnd_stop h]
        refine ⟨_, rfl, _, rfl, _, rfl, hl', _, _, rfl, rfl, _, rfl, ?_⟩
        refine ite2 (fun h4 => ?_) (fun h4 => ?_)
        · have he' : e < t.length := by have := of_decide_eq_true h4; omega
          obtain ⟨d, hd⟩ := get_some he'
          refine ⟨_, rfl, _, rfl, _, _, d, rfl, rfl, hl', S_at hd, _, rfl, _, _, rfl, rfl, _, rfl, ?_⟩
          rw [inrun]
          refine ite2 (fun h5 => ?_) (fun h5 => ?_)
          · refine ⟨_, fun _ _ q => q, ?_⟩
            refine ⟨_, rfl, _, _, rfl, rfl, ?_⟩
            have less : t.length - (e + 1) < t.length - e := by omega
            exact ⟨_, less, rfl, rfl, e + 1, he', fun q => by rw [heq q, runEnd_go hd h5], fun q => absurd (h3.symm.trans q) (by decide), rfl⟩
          · refine ⟨rfl, ?_⟩
            rw [fin (fun d' hd' => ?_)]
            rw [hd] at hd'
            cases hd'
            exact Bool.eq_false_iff.mpr h5
        · have he' : ¬ e < t.length := by have := ndec h4; omega
          refine iteF ?_
          refine ⟨rfl, ?_⟩
          rw [fin (fun d' hd' => absurd (List.getElem?_eq_some_iff.mp hd').1 he')]
      · refine iteF ?_
        refine ⟨rfl, ?_⟩
        rw [show tokEnd t i = i + 1 by unfold tokEnd; rw [hg, if_neg h3], hne (Bool.eq_false_iff.mpr h3)]
    · rintro σ2 H2 ⟨rfl, rfl⟩
      have hT := tokEnd_gt t i
      have hT2 := tokEnd_le hi
      refine ⟨fun σ2 H3 => ∃ pre' xs', WIn t H p1 (tokEnd t i) H3 pre' xs' ∧ σ2 = [some (.str (S t)), some (.str rn), some (.ref p1), some (.int (i : Int)), some (.int ((tokEnd t i : Nat) : Int))], ?_, ?_⟩
      · refine ⟨_, rfl, _, rfl, _, _, c, rfl, rfl, hl', S_at hc, _, _, rfl, rfl, _, rfl, ?_⟩
        refine ite2 (fun h11 => ?_) (fun h11 => ?_)
        · have hsp : isSp (t.getD i 0) = false := by
            rw [hg]
            cases q : isSp c with
            | false => rfl
            | true =>
              rw [show decide (c ∈ (PySem.Str.ofString " \n").cps.toList) = true by rw [e_sp]; exact decide_eq_true (isSp_iff.mp q)] at h11
              cases h11
          refine ⟨_, rfl, .inl ⟨rfl, _, SqL.of W.at_⟩, _, rfl, _, rfl, _, rfl, _, rfl, _, rfl, _, rfl, hl', _, rfl, (by show 2 ≤ sizeLine; decide), fun p12 np12 => ?_⟩
          have np : p12 ≠ p1 := (ne_of_none W.at_ np12).symm
          refine ⟨_, _, _, rfl, rfl, (by rw [upd_ne np.symm]; exact W.at_), (by have := W.ln; omega), ?_⟩
          rw [S_cut (Nat.le_of_lt hT) hT2]
          exact ⟨_, _, W.word np1 hi hsp np12, rfl⟩
        · have hsp : isSp (t.getD i 0) = true := by
            rw [hg]
            cases q : isSp c with
            | true => rfl
            | false =>
              rw [show decide (c ∈ (PySem.Str.ofString " \n").cps.toList) = false by rw [e_sp]; exact decide_eq_false (fun z => by rw [isSp_iff.mpr z] at q; cases q)] at h11
              exact absurd rfl h11
          exact ⟨_, _, W.skip hi hsp, rfl⟩
      · rintro σ2 H3 ⟨pre', xs', W', rfl⟩
        refine ⟨_, rfl, t.length - tokEnd t i, ?_, rfl, tokEnd t i, _, pre', xs', rfl, W'⟩
        show t.length - (tokEnd t i) < t.length - i
        omega
  · have hi : i = t.length := by have := ndec h2; have := W.le; omega
    refine ⟨_, rfl, ?_⟩
    refine k p1 xs H' W.sm np1 W.at_ ?_
    have := W.eq
    rw [toks_end (Nat.le_of_eq hi.symm), List.append_nil] at this
    rw [← this]
    exact W.ws
end
end K77
namespace K77
open PySem PySem.Spec PyProof.Rows L2
open C8 (pss_cut)
/-! data in the heap -/
inductive Da where
  | non | int (i : Int) | tup (xs : List Da)
mutual
inductive DA (H : Hp) : V → Da → Prop where
  | non : DA H .non .non
  | int (i : Int) : DA H (.int i) (.int i)
  | tup {a : Addr} {xs : List V} {ds : List Da} : H a = some (.tup xs) → DAs H xs ds → DA H (.ref a) (.tup ds)
inductive DAs (H : Hp) : List V → List Da → Prop where
  | nil : DAs H [] []
  | cons {x : V} {xs : List V} {d : Da} {ds : List Da} : DA H x d → DAs H xs ds → DAs H (x :: xs) (d :: ds)
end
mutual
theorem DA.mono {H H' : Hp} (t : Tups H H') : ∀ {x : V} {d : Da}, DA H x d → DA H' x d
  | _, _, .non => .non
  | _, _, .int i => .int i
  | _, _, .tup h q => .tup (t _ _ h) (DAs.mono t q)
theorem DAs.mono {H H' : Hp} (t : Tups H H') : ∀ {xs : List V} {ds : List Da}, DAs H xs ds → DAs H' xs ds
  | _, _, .nil => .nil
  | _, _, .cons a b => .cons (DA.mono t a) (DAs.mono t b)
end
theorem DAs.snoc {H : Hp} : ∀ {xs : List V} {ds : List Da} {x : V} {d : Da}, DAs H xs ds → DA H x d → DAs H (xs ++ [x]) (ds ++ [d])
  | _, _, _, _, .nil, h => .cons h .nil
  | _, _, _, _, .cons a b, h => .cons a (DAs.snoc b h)
theorem DAs.length {H : Hp} : ∀ {xs : List V} {ds : List Da}, DAs H xs ds → xs.length = ds.length
  | _, _, .nil => rfl
  | _, _, .cons a b => by rw [List.length_cons, List.length_cons, DAs.length b]
theorem DA.isInt {H : Hp} {x : V} {i : Int} (h : DA H x (.int i)) : x = .int i := by cases h; rfl
theorem Tups.new {H H1 : Hp} {p : Addr} {o : HO} (a : Tups H H1) (hp : H1 p = none) : Tups H (upd H1 p o) := fun b xs e => by
  have := a b xs e
  rw [upd_ne (ne_of_none this hp)]
  exact this
/-! the program's reader -/
abbrev RC (K : PySem.W.Frag) : Addr := He.ga K "Reader"
abbrev BC (K : PySem.W.Frag) : Addr := He.ga K "BadText"
abbrev rFs (wl : Addr) (n i : Nat) : List (Str × V) := [(PySem.Str.ofString "many", .int (n : Int)), (PySem.Str.ofString "words", .ref wl), (PySem.Str.ofString "at", .int (i : Int))]
structure RdAt (C : Addr) (ws : List (Wd × Nat)) (n : Nat) (r wl : Addr) (i : Nat) (H : Hp) : Prop where
  ex : ∃ dx xs, H r = some (.ins C dx (rFs wl n i)) ∧ H wl = some (.lst xs) ∧ WordsL H xs ws
  big : ∀ i, (wAt ws i).length ≤ sizeLine
  cnt : ws.length < sizeLine
theorem But.one {r : Addr} {H H1 : Hp} {o : HO} (a : But r r H H1) : But r r H (upd H1 r o) := But.put a (.inl rfl)
theorem RdAt.tups {C : Addr} {ws : List (Wd × Nat)} {n i : Nat} {r wl : Addr} {H H' : Hp} (R : RdAt C ws n r wl i H) (b : But r r H H') : Tups H H' := by
  obtain ⟨dx, xs, h1, _⟩ := R.ex
  exact But.tups b (fun ys e => by rw [h1] at e; cases e) (fun ys e => by rw [h1] at e; cases e)
theorem RdAt.same {C : Addr} {ws : List (Wd × Nat)} {n i : Nat} {r wl : Addr} {H H' : Hp} (R : RdAt C ws n r wl i H) (s : Same H H') : RdAt C ws n r wl i H' := by
  obtain ⟨dx, xs, h1, h2, h3⟩ := R.ex
  exact ⟨⟨dx, xs, s _ _ h1, s _ _ h2, h3.mono (Same.tups s)⟩, R.big, R.cnt⟩
theorem RdAt.step {C : Addr} {ws : List (Wd × Nat)} {n i : Nat} {r wl : Addr} {H : Hp} {dx : Addr} {j : Nat} (R : RdAt C ws n r wl i H) (h : H r = some (.ins C dx (rFs wl n i))) : RdAt C ws n r wl j (upd H r (.ins C dx (rFs wl n j))) := by
  obtain ⟨dx', xs, h1, h2, h3⟩ := R.ex
  rw [h] at h1
  cases h1
  have hw : wl ≠ r := fun z => by rw [z, h] at h2; cases h2
  refine ⟨⟨dx, xs, upd_same, by rw [upd_ne hw]; exact h2, h3.mono fun b ys e => ?_⟩, R.big, R.cnt⟩
  rw [upd_ne (fun z => by rw [z, h] at e; cases e)]
  exact e
theorem WordsL.at {H : Hp} {xs : List V} {ws : List (Wd × Nat)} {i : Nat} (h : WordsL H xs ws) (hi : i < ws.length) (n : Nat) : ∃ a, atI xs (i : Int) = some (.ref a) ∧ H a = some (.tup [.str (S (wAt ws i)), .int ((pAt ws n i : Nat) : Int)]) := by
  obtain ⟨p, hp⟩ := get_some hi
  obtain ⟨a, h1, h2⟩ := h.2 i p hp
  refine ⟨a, atI_nat h1, ?_⟩
  unfold wAt pAt
  rw [hp]
  exact h2
theorem wAt_out {ws : List (Wd × Nat)} {i : Nat} (h : ¬ i < ws.length) : wAt ws i = [] := by
  unfold wAt
  rw [List.getElem?_eq_none (Nat.not_lt.mp h)]
theorem pAt_out {ws : List (Wd × Nat)} {i n : Nat} (h : ¬ i < ws.length) : pAt ws n i = n := by
  unfold pAt
  rw [List.getElem?_eq_none (Nat.not_lt.mp h)]
theorem iteT' {p q : Prop} {b : Bool} (h : b = true) (k : p) : if b = true then p else q := by rw [if_pos h]; exact k
theorem iteF' {p q : Prop} {b : Bool} (h : b = false) (k : q) : if b = true then p else q := by rw [if_neg (by rw [h]; exact Bool.false_ne_true)]; exact k
/-- what a reading answers -/
def OutP {α : Type} (K : PySem.W.Frag) (ws : List (Wd × Nat)) (n : Nat) (r wl : Addr) (H : Hp) (E : XK) (Q : VK) (enc : α → Da) (m : Rd α) : Prop := match m with
  | .ok (v, j) => ∀ x H', DA H' x (enc v) → RdAt (RC K) ws n r wl j H' → But r r H H' → Q x H'
  | .error p => ∀ d H', H' d = some (xdP (.int ((p : Nat) : Int))) → But r r H H' → E (.ref (BC K)) (some d) H'
def spWord (K : PySem.W.Frag) : Sp := fun vs H Q _ => ∃ r ws n wl i, vs = [.ref r] ∧ RdAt (RC K) ws n r wl i H ∧ Q (.str (S (wAt ws i))) H
def spStop (K : PySem.W.Frag) : Sp := fun vs H Q E => ∃ r ws n wl i, vs = [.ref r] ∧ RdAt (RC K) ws n r wl i H ∧ ∀ d H', H' d = some (xdP (.int ((pAt ws n i : Nat) : Int))) → Same H H' → E (.ref (BC K)) (some d) H'
def spTaken (K : PySem.W.Frag) : Sp := fun vs H Q _ => ∃ r ws n wl i, vs = [.ref r] ∧ RdAt (RC K) ws n r wl i H ∧ ∀ H', RdAt (RC K) ws n r wl (i + 1) H' → But r r H H' → Q (.str (S (wAt ws i))) H'
def spGoes (K : PySem.W.Frag) : Sp := fun vs H Q _ => ∃ r ws n wl i s, vs = [.ref r, .str (S s)] ∧ RdAt (RC K) ws n r wl i H ∧
  ∀ H', But r r H H' → RdAt (RC K) ws n r wl (if wAt ws i = s then i + 1 else i) H' → Q (.bl (decide (wAt ws i = s))) H'
def spMark (K : PySem.W.Frag) : Sp := fun vs H Q E => ∃ r ws n wl i s, vs = [.ref r, .str (S s)] ∧ RdAt (RC K) ws n r wl i H ∧ OutP K ws n r wl H E Q (fun _ => Da.non) (mMark ws n s i)
def spNum (K : PySem.W.Frag) : Sp := fun vs H Q E => ∃ (r : Addr) (ws : List (Wd × Nat)) (n : Nat) (wl : Addr) (i : Nat) (most : Int), vs = [.ref r, .int most] ∧ RdAt (RC K) ws n r wl i H ∧ OutP K ws n r wl H E Q Da.int (mNum ws n 0 most i)
def spNumber (K : PySem.W.Frag) : Sp := fun vs H Q E => ∃ r ws n wl i, vs = [.ref r, .int (-1000000), .int 1000000] ∧ RdAt (RC K) ws n r wl i H ∧ OutP K ws n r wl H E Q Da.int (mNumber ws n i)
def spEnd (K : PySem.W.Frag) : Sp := fun vs H Q E => ∃ r ws n wl i, vs = [.ref r] ∧ RdAt (RC K) ws n r wl i H ∧ if i < ws.length then (∀ d H', H' d = some (xdP (.int ((pAt ws n i : Nat) : Int))) → Same H H' → E (.ref (BC K)) (some d) H') else Q .non H
def spInit (K : PySem.W.Frag) : Sp := fun vs H Q E => ∃ r dx x, vs = [.ref r, x] ∧ H r = some (.ins (RC K) dx []) ∧
  ((∃ t : List Nat, x = .str (S t) ∧ t.length < sizeLine ∧ ∀ wl H', RdAt (RC K) (toks t 0) t.length r wl 0 H' → But r r H H' → Q .non H') ∨
   (∃ ty, TyX K H x ty ∧ PySem.W.kitOne K ty (.type "str") = some false ∧ ∀ d H', H' d = some (xdP (.int 0)) → Same H H' → E (.ref (BC K)) (some d) H'))
theorem toks_len (t : List Nat) (i : Nat) : ∀ p ∈ toks t i, p.1.length ≤ t.length := by
  by_cases h : i < t.length
  · intro p hp
    rw [toks_step h, List.mem_append] at hp
    rcases hp with hp | hp
    · split at hp
      · cases hp
      · rw [List.mem_singleton] at hp
        subst hp
        show ((t.drop i).take (tokEnd t i - i)).length ≤ _
        rw [List.length_take, List.length_drop]
        omega
    · exact toks_len t (tokEnd t i) p hp
  · rw [toks_end (Nat.not_lt.mp h)]
    intro p hp
    cases hp
termination_by t.length - i
decreasing_by have := tokEnd_gt t i; omega
theorem toks_big {t : List Nat} (h : t.length ≤ sizeLine) (i : Nat) : (wAt (toks t 0) i).length ≤ sizeLine := by
  unfold wAt
  cases e : (toks t 0)[i]? with
  | none => exact Nat.zero_le _
  | some p => exact Nat.le_trans (toks_len t 0 p (List.mem_of_getElem? e)) h
theorem int_S {w : Wd} (h : isNum w = true) : PySem.intText? (S w) = some (val w) ∧ (S w).length ≤ 640 := by
  obtain ⟨h1, h2, h3⟩ := isNum_digits h
  exact ⟨PySem.intText_digits h1 h2 (by rw [S_len]; omega), by rw [S_len]; omega⟩
section
variable {P : Program} {w : World} {K : PySem.W.Frag} {mg : Str → Option Value} {base : Heap}
theorem ok_Reader_word (T : Txt P K mg) : FnOk P w K mg base CX0 1 (He.fAd K ("Reader", some "word")) (fdO K ("Reader", some "word")) ["self"] (spWord K) := by
  refine T.F_Reader_word.ok sc_Reader_word (fun vs H Q E h => ?_) (fun cdv A outer s H vs Q E hr h => ?_)
  · obtain ⟨r, ws, n, wl, i, rfl, _⟩ := h
    rfl
  obtain ⟨r, ws, n, wl, i, rfl, R, k⟩ := h
  obtain ⟨dx, xs, h1, h2, h3⟩ := R.ex
  refine ⟨_, PSs.nox (pss_one (ps_ret (pe_ifExp (pt_cmpR op_lt (pe_fld (pv 0) rfl) (pe_callB call_len_seq (by rfl) T.z_len (by decide +kernel) (pa_cons (pe_fld (pv 0) rfl) pa_nil)) (nomark _)) (pe_ix ix_tup (pe_ix ix_list (pe_fld (pv 0) rfl) (pe_fld (pv 0) rfl) (fun _ _ => rfl)) pe_int (fun _ _ => rfl)) pe_str))), ?_⟩
  refine ⟨_, rfl, _, _, _, _, _, rfl, h1, T.cl_Reader, T.n_Reader_at, rfl, _, rfl, _, _, _, _, _, rfl, h1, T.cl_Reader, T.n_Reader_words, rfl, _, _, rfl, .inl (SqL.of h2), _, _, rfl, rfl, _, rfl, ?_⟩
  refine ite2 (fun hh => ?_) (fun hh => ?_)
  · have hi : i < ws.length := by have := of_decide_eq_true hh; rw [h3.1] at this; omega
    obtain ⟨a, ha, hta⟩ := h3.at hi n
    refine ⟨_, rfl, _, _, _, _, _, rfl, h1, T.cl_Reader, T.n_Reader_words, rfl, _, rfl, _, _, _, _, _, rfl, h1, T.cl_Reader, T.n_Reader_at, rfl, _, _, _, _, rfl, rfl, SqL.of h2, ha, _, _, _, _, rfl, rfl, SqT.of hta, atI_nat (j := 0) rfl, ?_⟩
    exact k
  · have hi : ¬ i < ws.length := fun z => ndec hh (by rw [h3.1]; omega)
    rw [wAt_out hi, ← ze] at k
    exact k
theorem ok_Reader_stop (T : Txt P K mg) : FnOk P w K mg base (L2.CX P w) 4 (He.fAd K ("Reader", some "stop")) (fdO K ("Reader", some "stop")) ["self"] (spStop K) := by
  refine T.F_Reader_stop.ok sc_Reader_stop (fun vs H Q E h => ?_) (fun cdv A outer s H vs Q E hr h => ?_)
  · obtain ⟨r, ws, n, wl, i, rfl, _⟩ := h
    rfl
  obtain ⟨r, ws, n, wl, i, rfl, R, k⟩ := h
  obtain ⟨dx, xs, h1, h2, h3⟩ := R.ex
  refine ⟨_, (pss_one (ps_raiseBt rfl T.bt hr (takes_of rfl rfl rfl rfl) (pa_cons (pe_ifExp (pt_cmpR op_lt (pe_fld (pv 0) rfl) (pe_callB call_len_seq (by rfl) T.z_len (by decide +kernel) (pa_cons (pe_fld (pv 0) rfl) pa_nil)) (nomark _)) (pe_ix ix_tup (pe_ix ix_list (pe_fld (pv 0) rfl) (pe_fld (pv 0) rfl) (fun _ _ => rfl)) pe_int (fun _ _ => rfl)) (pe_fld (pv 0) rfl)) pa_nil))), ?_⟩
  refine ⟨_, rfl, _, _, _, _, _, rfl, h1, T.cl_Reader, T.n_Reader_at, rfl, _, rfl, _, _, _, _, _, rfl, h1, T.cl_Reader, T.n_Reader_words, rfl, _, _, rfl, .inl (SqL.of h2), _, _, rfl, rfl, _, rfl, ?_⟩
  refine ite2 (fun hh => ?_) (fun hh => ?_)
  · have hi : i < ws.length := by have := of_decide_eq_true hh; rw [h3.1] at this; omega
    obtain ⟨a, ha, hta⟩ := h3.at hi n
    refine ⟨_, rfl, _, _, _, _, _, rfl, h1, T.cl_Reader, T.n_Reader_words, rfl, _, rfl, _, _, _, _, _, rfl, h1, T.cl_Reader, T.n_Reader_at, rfl, _, _, _, _, rfl, rfl, SqL.of h2, ha, _, _, _, _, rfl, rfl, SqT.of hta, atI_nat (j := 1) rfl, ?_⟩
    exact ⟨_, rfl, fun d hd => k d _ upd_same (Same.new (Same.refl H) hd)⟩
  · have hi : ¬ i < ws.length := fun z => ndec hh (by rw [h3.1]; omega)
    refine ⟨_, rfl, _, _, _, _, _, rfl, h1, T.cl_Reader, T.n_Reader_many, rfl, ?_⟩
    rw [pAt_out hi] at k
    exact ⟨_, rfl, fun d hd => k d _ upd_same (Same.new (Same.refl H) hd)⟩
theorem ok_Reader_taken (T : Txt P K mg) : FnOk P w K mg base CX0 2 (He.fAd K ("Reader", some "taken")) (fdO K ("Reader", some "taken")) ["self"] (spTaken K) := by
  refine T.F_Reader_taken.ok sc_Reader_taken (fun vs H Q E h => ?_) (fun cdv A outer s H vs Q E hr h => ?_)
  · obtain ⟨r, ws, n, wl, i, rfl, _⟩ := h
    rfl
  obtain ⟨r, ws, n, wl, i, rfl, R, k⟩ := h
  obtain ⟨dx, xs, h1, h2, h3⟩ := R.ex
  refine ⟨_, PSs.nox (pss_cons (ps_set (i := 1) sc_Reader_taken.nd rfl (Or.inl rfl) (pe_meth0 (pv 0) T.cl_Reader T.m_Reader_word (ok_Reader_word T) hr (b_Reader_word T) .nil pass0))
    (pss_cons (ps_fldaug (pv 0) pe_int in_add)
    (pss_one (ps_ret (pv 1))))), ?_⟩
  refine ⟨_, rfl, _, _, _, rfl, h1, rfl, ?_⟩
  refine ⟨r, ws, n, wl, i, rfl, R, ?_⟩
  refine ⟨_, rfl, _, _, _, _, _, rfl, h1, T.cl_Reader, T.n_Reader_at, rfl, _, _, rfl, rfl, _, _, h1, (by show 3 < 1000; decide), _, rfl, ?_⟩
  exact k _ (R.step h1) (But.one (But.refl r r H))
theorem ok_Reader_goes_on (T : Txt P K mg) : FnOk P w K mg base CX0 2 (He.fAd K ("Reader", some "goes_on")) (fdO K ("Reader", some "goes_on")) ["self", "sign"] (spGoes K) := by
  refine T.F_Reader_goes_on.ok sc_Reader_goes_on (fun vs H Q E h => ?_) (fun cdv A outer s H vs Q E hr h => ?_)
  · obtain ⟨r, ws, n, wl, i, s, rfl, _⟩ := h
    rfl
  obtain ⟨r, ws, n, wl, i, s, rfl, R, k⟩ := h
  obtain ⟨dx, xs, h1, h2, h3⟩ := R.ex
  refine ⟨_, PSs.nox (pss_cons (ps_if (pt_cmpR op_ne (pe_meth0 (pv 0) T.cl_Reader T.m_Reader_word (ok_Reader_word T) hr (b_Reader_word T) .nil pass0) (pv 1) (nomark _))
      (pss_one (ps_ret pe_bl))
      pss_nil)
    (pss_cons (ps_fldaug (pv 0) pe_int in_add)
    (pss_one (ps_ret pe_bl)))), ?_⟩
  refine ⟨_, rfl, _, _, _, rfl, h1, rfl, ?_⟩
  refine ⟨r, ws, n, wl, i, rfl, R, ?_⟩
  refine ⟨_, rfl, rfl, _, rfl, ?_⟩
  by_cases hw : wAt ws i = s
  · rw [if_pos hw, decide_eq_true hw] at k
    refine iteF' (by rw [decide_eq_true ((strIs rfl).mpr hw)]; rfl) ?_
    refine ⟨_, rfl, _, _, _, _, _, rfl, h1, T.cl_Reader, T.n_Reader_at, rfl, _, _, rfl, rfl, _, _, h1, (by show 3 < 1000; decide), ?_⟩
    exact k _ (But.one (But.refl r r H)) (R.step h1)
  · rw [if_neg hw, decide_eq_false hw] at k
    refine iteT' (by rw [decide_eq_false (fun z => hw ((strIs rfl).mp z))]; rfl) ?_
    exact k _ (But.refl r r H) R
end
end K77
namespace K77
open PySem PySem.Spec PyProof.Rows L2
open C8 (pss_cut)
theorem mNum_no {ws : List (Wd × Nat)} {n i : Nat} {lo hi : Int} (h : ¬ (isNum (wAt ws i) = true ∧ lo ≤ val (wAt ws i) ∧ val (wAt ws i) ≤ hi)) : mNum ws n lo hi i = .error (pAt ws n i) := by unfold mNum; rw [if_neg h]
theorem mNum_yes {ws : List (Wd × Nat)} {n i : Nat} {lo hi : Int} (h : isNum (wAt ws i) = true ∧ lo ≤ val (wAt ws i) ∧ val (wAt ws i) ≤ hi) : mNum ws n lo hi i = .ok (val (wAt ws i), i + 1) := by unfold mNum; rw [if_pos h]
theorem mNum_pos {ws : List (Wd × Nat)} {n i : Nat} {hi : Int} (h : wAt ws i ≠ [48]) : mNum ws n 1 hi i = mNum ws n 0 hi i := by
  by_cases hn : isNum (wAt ws i) = true
  · have hp : 1 ≤ val (wAt ws i) := by
      rcases isNum_pos hn with z | z
      · exact absurd z.1 h
      · exact z.2
    unfold mNum
    by_cases h2 : val (wAt ws i) ≤ hi
    · rw [if_pos ⟨hn, hp, h2⟩, if_pos ⟨hn, by omega, h2⟩]
    · rw [if_neg fun z => h2 z.2.2, if_neg fun z => h2 z.2.2]
  · rw [mNum_no fun z => hn z.1, mNum_no fun z => hn z.1]
theorem mNum_zero {ws : List (Wd × Nat)} {n i : Nat} {hi : Int} (h : wAt ws i = [48]) : mNum ws n 1 hi i = .error (pAt ws n i) := by
  refine mNum_no fun z => ?_
  rw [h] at z
  have := z.2.1
  exact absurd this (by decide)
theorem OutP.errS {α : Type} {K : PySem.W.Frag} {ws : List (Wd × Nat)} {n i : Nat} {r wl : Addr} {H H1 : Hp} {E : XK} {Q : VK} {enc : α → Da} {m : Rd α} {p : Nat} (e : m = .error p) (k : OutP K ws n r wl H E Q enc m) (b : But r r H H1) :
    ∀ d H', H' d = some (xdP (.int ((p : Nat) : Int))) → Same H1 H' → E (.ref (BC K)) (some d) H' := by
  rw [e] at k
  exact fun d H' hd s => k d H' hd (But.trans b (Same.but s))
theorem OutP.err {α : Type} {K : PySem.W.Frag} {ws : List (Wd × Nat)} {n i : Nat} {r wl : Addr} {H : Hp} {E : XK} {Q : VK} {enc : α → Da} {m : Rd α} {p : Nat} (e : m = .error p) (k : OutP K ws n r wl H E Q enc m) :
    ∀ d H', H' d = some (xdP (.int ((p : Nat) : Int))) → But r r H H' → E (.ref (BC K)) (some d) H' := by
  rw [e] at k
  exact k
theorem OutP.ok {α : Type} {K : PySem.W.Frag} {ws : List (Wd × Nat)} {n i : Nat} {r wl : Addr} {H : Hp} {E : XK} {Q : VK} {enc : α → Da} {m : Rd α} {v : α} {j : Nat} (e : m = .ok (v, j)) (k : OutP K ws n r wl H E Q enc m) :
    ∀ x H', DA H' x (enc v) → RdAt (RC K) ws n r wl j H' → But r r H H' → Q x H' := by
  rw [e] at k
  exact k
/-- the part of a reading that comes next: what it answers is taken on -/
theorem OutP.bind {α β : Type} {K : PySem.W.Frag} {ws : List (Wd × Nat)} {n : Nat} {r wl : Addr} {H H1 : Hp} {E : XK} {Q Q1 : VK} {enc : α → Da} {enc1 : β → Da} {m : Rd α} {m1 : Rd β} {f : β → Nat → Rd α}
    (k : OutP K ws n r wl H E Q enc m) (e : m = rb m1 f) (b : But r r H H1) (hq : ∀ v j, m1 = .ok (v, j) → m = f v j → ∀ x H', DA H' x (enc1 v) → RdAt (RC K) ws n r wl j H' → But r r H1 H' → Q1 x H') : OutP K ws n r wl H1 E Q1 enc1 m1 := by
  cases h : m1 with
  | ok q =>
    obtain ⟨v, j⟩ := q
    rw [h] at e
    exact hq v j h e
  | error p =>
    rw [h] at e
    exact fun d H' hd b' => OutP.err (i := 0) e k d H' hd (But.trans b b')
section
variable {P : Program} {w : World} {K : PySem.W.Frag} {mg : Str → Option Value} {base : Heap}
theorem ok_Reader_mark (T : Txt P K mg) : FnOk P w K mg base (L2.CX P w) 5 (He.fAd K ("Reader", some "mark")) (fdO K ("Reader", some "mark")) ["self", "sign"] (spMark K) := by
  refine T.F_Reader_mark.ok sc_Reader_mark (fun vs H Q E h => ?_) (fun cdv A outer s H vs Q E hr h => ?_)
  · obtain ⟨r, ws, n, wl, i, s, rfl, _⟩ := h
    rfl
  obtain ⟨r, ws, n, wl, i, s, rfl, R, k⟩ := h
  obtain ⟨dx, xs, h1, h2, h3⟩ := R.ex
  refine ⟨_, (pss_one (ps_if (pt_not (pt_val (pe_meth (pv 0) T.cl_Reader T.m_Reader_goes_on (ok_Reader_goes_on T) (hr.mono (by decide)) (b_Reader_goes_on T) .nil pass0 (pa_cons (pv 1) pa_nil))))
      (pss_one (ps_expr (pe_meth0 (pv 0) T.cl_Reader T.m_Reader_stop (ok_Reader_stop T) hr (b_Reader_stop T) .nil (passes_call (takes_of rfl rfl rfl rfl) (fun _ _ _ _ h => h)))))
      pss_nil)), ?_⟩
  refine ⟨_, rfl, _, _, _, rfl, h1, rfl, _, rfl, ?_⟩
  refine ⟨r, ws, n, wl, i, s, rfl, R, fun H1 b1 R1 => ?_⟩
  refine ⟨_, rfl, ?_⟩
  by_cases hw : wAt ws i = s
  · rw [if_pos hw] at R1
    refine iteF' (by rw [decide_eq_true hw]; rfl) ?_
    exact OutP.ok (i := 0) (by unfold mMark; rw [if_pos hw]) k _ _ .non R1 b1
  · rw [if_neg hw] at R1
    refine iteT' (by rw [decide_eq_false hw]; rfl) ?_
    obtain ⟨dx, xs, h1, h2, h3⟩ := R1.ex
    refine ⟨_, rfl, _, _, _, rfl, h1, rfl, ?_⟩
    exact ⟨r, ws, n, wl, i, rfl, R1, OutP.errS (i := 0) (by unfold mMark; rw [if_neg hw]) k b1⟩
theorem ok_Reader_numeral (T : Txt P K mg) : FnOk P w K mg base (L2.CX P w) 5 (He.fAd K ("Reader", some "numeral")) (fdO K ("Reader", some "numeral")) ["self", "most"] (spNum K) := by
  refine T.F_Reader_numeral.ok sc_Reader_numeral (fun vs H Q E h => ?_) (fun cdv A outer s H vs Q E hr h => ?_)
  · obtain ⟨r, ws, n, wl, i, most, rfl, _⟩ := h
    rfl
  obtain ⟨r, ws, n, wl, i, most, rfl, R, k⟩ := h
  obtain ⟨dx, xs, h1, h2, h3⟩ := R.ex
  refine ⟨_, (pss_cons (ps_set (i := 2) sc_Reader_numeral.nd rfl (Or.inl rfl) (pe_meth0 (pv 0) T.cl_Reader T.m_Reader_word (ok_Reader_word T) (hr.mono (by decide)) (b_Reader_word T) .nil pass0))
    (pss_cut (ps_if (PW.pt (pw_or (pt_not (pt_val (pe_call (ok_is_numeral T) (hr.mono (by decide)) rfl T.g_is_numeral T.F_is_numeral.kp (b_is_numeral T) .nil pass0 (pa_cons (pv 2) pa_nil)))) (pw_or1 (pt_cmpR op_gt (pe_callTy call_int_str (by rfl) T.z_int (by decide +kernel) (pa_cons (pv 2) pa_nil)) (pv 1) (nomark _)))))
      (pss_one (ps_expr (pe_meth0 (pv 0) T.cl_Reader T.m_Reader_stop (ok_Reader_stop T) hr (b_Reader_stop T) .nil (passes_call (takes_of rfl rfl rfl rfl) (fun _ _ _ _ h => h)))))
      pss_nil)
    (pss_cons (ps_fldaug (pv 0) pe_int in_add)
    (pss_one (ps_ret (pe_callTy call_int_str (by rfl) T.z_int (by decide +kernel) (pa_cons (pv 2) pa_nil))))))), ?_⟩
  refine ⟨_, rfl, _, _, _, rfl, h1, rfl, ?_⟩
  refine ⟨r, ws, n, wl, i, rfl, R, ?_⟩
  refine ⟨fun σ' H' => isNum (wAt ws i) = true ∧ val (wAt ws i) ≤ most ∧ σ' = [some (.ref r), some (.int most), some (.str (S (wAt ws i)))] ∧ RdAt (RC K) ws n r wl i H' ∧ But r r H H', ?_, ?_⟩
  · refine ⟨_, rfl, ?_⟩
    refine ⟨_, rfl, R.big i, fun H1 s1 => ?_⟩
    have R1 := R.same s1
    obtain ⟨dx, xs, h1, h2, h3⟩ := R1.ex
    refine ⟨_, rfl, ?_⟩
    cases hn : isNum (wAt ws i) with
    | false =>
      refine iteT' rfl ?_
      refine iteT ?_
      refine ⟨_, rfl, _, _, _, rfl, h1, rfl, ?_⟩
      exact ⟨r, ws, n, wl, i, rfl, R1, OutP.errS (i := 0) (mNum_no fun z => by rw [hn] at z; exact absurd z.1 (by decide)) k (Same.but s1)⟩
    | true =>
      refine iteF' rfl ?_
      obtain ⟨e1, e2⟩ := int_S hn
      refine ⟨_, rfl, _, _, rfl, e1, e2, _, rfl, _, _, rfl, rfl, _, rfl, ?_⟩
      refine ite2 (fun h2 => ?_) (fun h2 => ?_)
      · refine ⟨_, rfl, _, _, _, rfl, h1, rfl, ?_⟩
        exact ⟨r, ws, n, wl, i, rfl, R1, OutP.errS (i := 0) (mNum_no fun z => by have := of_decide_eq_true h2; omega) k (Same.but s1)⟩
      · exact ⟨rfl, by have := ndec h2; omega, rfl, R1, Same.but s1⟩
  · rintro σ' H' ⟨hn, hm, rfl, R1, b1⟩
    obtain ⟨dx, xs, h1, h2, h3⟩ := R1.ex
    obtain ⟨e1, e2⟩ := int_S hn
    refine ⟨_, rfl, _, _, _, _, _, rfl, h1, T.cl_Reader, T.n_Reader_at, rfl, _, _, rfl, rfl, _, _, h1, (by show 3 < 1000; decide), _, rfl, _, _, rfl, e1, e2, ?_⟩
    exact OutP.ok (i := 0) (mNum_yes ⟨hn, val_nonneg _, hm⟩) k _ _ (.int _) (R1.step h1) (But.one b1)
theorem ok_take_weight (T : Txt P K mg) : FnOk P w K mg base (L2.CX P w) 6 (He.fAd K ("take_weight", none)) (fdO K ("take_weight", none)) ["reader", "most"]
    (fun vs H Q E => ∃ (r : Addr) (ws : List (Wd × Nat)) (n : Nat) (wl : Addr) (i : Nat) (most : Int), vs = [.ref r, .int most] ∧ RdAt (RC K) ws n r wl i H ∧ OutP K ws n r wl H E Q Da.int (mNum ws n 1 most i)) := by
  refine T.F_take_weight.ok sc_take_weight (fun vs H Q E h => ?_) (fun cdv A outer s H vs Q E hr h => ?_)
  · obtain ⟨r, ws, n, wl, i, most, rfl, _⟩ := h
    rfl
  obtain ⟨r, ws, n, wl, i, most, rfl, R, k⟩ := h
  obtain ⟨dx, xs, h1, h2, h3⟩ := R.ex
  refine ⟨_, (pss_cut (ps_if (pt_cmpR op_eq (pe_meth0 (pv 0) T.cl_Reader T.m_Reader_word (ok_Reader_word T) (hr.mono (by decide)) (b_Reader_word T) .nil pass0) pe_str (nomark _))
      (pss_one (ps_expr (pe_meth0 (pv 0) T.cl_Reader T.m_Reader_stop (ok_Reader_stop T) (hr.mono (by decide)) (b_Reader_stop T) .nil (passes_call (takes_of rfl rfl rfl rfl) (fun _ _ _ _ h => h)))))
      pss_nil)
    (pss_one (ps_ret (pe_meth (pv 0) T.cl_Reader T.m_Reader_numeral (ok_Reader_numeral T) hr (b_Reader_numeral T) .nil (passes_call (takes_of rfl rfl rfl rfl) (fun _ _ _ _ h => h)) (pa_cons (pv 1) pa_nil))))), ?_⟩
  refine ⟨fun σ' H' => wAt ws i ≠ [48] ∧ H' = H ∧ σ' = [some (.ref r), some (.int most)], ?_, ?_⟩
  · refine ⟨_, rfl, _, _, _, rfl, h1, rfl, ?_⟩
    refine ⟨r, ws, n, wl, i, rfl, R, ?_⟩
    refine ⟨rfl, _, rfl, ?_⟩
    refine ite2 (fun hh => ?_) (fun hh => ?_)
    · have hw := (strIs z0).mp (of_decide_eq_true hh)
      refine ⟨_, rfl, _, _, _, rfl, h1, rfl, ?_⟩
      exact ⟨r, ws, n, wl, i, rfl, R, OutP.errS (i := 0) (mNum_zero hw) k (But.refl r r H)⟩
    · exact ⟨fun z => ndec hh ((strIs z0).mpr z), rfl, rfl⟩
  · rintro σ' H' ⟨hw, rfl, rfl⟩
    refine ⟨_, rfl, _, _, _, rfl, h1, rfl, _, rfl, ?_⟩
    rw [mNum_pos hw] at k
    exact ⟨r, ws, n, wl, i, most, rfl, R, k⟩
theorem zm : (PySem.Str.ofString "-") = S [45] := by decide +kernel
theorem ok_Reader_number (T : Txt P K mg) : FnOk P w K mg base (L2.CX P w) 6 (He.fAd K ("Reader", some "number")) (fdO K ("Reader", some "number")) ["self", "least", "most"] (spNumber K) := by
  refine T.F_Reader_number.ok sc_Reader_number (fun vs H Q E h => ?_) (fun cdv A outer s H vs Q E hr h => ?_)
  · obtain ⟨r, ws, n, wl, i, rfl, _⟩ := h
    rfl
  obtain ⟨r, ws, n, wl, i, rfl, R, k⟩ := h
  obtain ⟨dx, xs, h1, h2, h3⟩ := R.ex
  refine ⟨_, (pss_cons (ps_if (pt_cmpR op_ne (pe_meth0 (pv 0) T.cl_Reader T.m_Reader_word (ok_Reader_word T) (hr.mono (by decide)) (b_Reader_word T) .nil pass0) pe_str (nomark _))
      (pss_cut (ps_if (PW.pt (pw_and (pt_val (pe_call (ok_is_numeral T) (hr.mono (by decide)) rfl T.g_is_numeral T.F_is_numeral.kp (b_is_numeral T) .nil pass0 (pa_cons (pe_meth0 (pv 0) T.cl_Reader T.m_Reader_word (ok_Reader_word T) (hr.mono (by decide)) (b_Reader_word T) .nil pass0) pa_nil))) (pw_and1 (pt_not (pt_chain op_le op_le (pv 1) (pe_callTy call_int_str (by rfl) T.z_int (by decide +kernel) (pa_cons (pe_meth0 (pv 0) T.cl_Reader T.m_Reader_word (ok_Reader_word T) (hr.mono (by decide)) (b_Reader_word T) .nil pass0) pa_nil)) (pv 2))))))
        (pss_one (ps_expr (pe_meth0 (pv 0) T.cl_Reader T.m_Reader_stop (ok_Reader_stop T) (hr.mono (by decide)) (b_Reader_stop T) .nil (passes_call (takes_of rfl rfl rfl rfl) (fun _ _ _ _ h => h)))))
        pss_nil)
      (pss_one (ps_ret (pe_meth (pv 0) T.cl_Reader T.m_Reader_numeral (ok_Reader_numeral T) hr (b_Reader_numeral T) .nil (passes_call (takes_of rfl rfl rfl rfl) (fun _ _ _ _ h => h)) (pa_cons (pv 2) pa_nil)))))
      pss_nil)
    (pss_cut (ps_if (pt_cmpR op_ge (pv 1) pe_int (nomark _))
      (pss_one (ps_expr (pe_meth0 (pv 0) T.cl_Reader T.m_Reader_stop (ok_Reader_stop T) (hr.mono (by decide)) (b_Reader_stop T) .nil (passes_call (takes_of rfl rfl rfl rfl) (fun _ _ _ _ h => h)))))
      pss_nil)
    (pss_cons (ps_fldaug (pv 0) pe_int in_add)
    (pss_cut (ps_if (pt_cmpR op_eq (pe_meth0 (pv 0) T.cl_Reader T.m_Reader_word (ok_Reader_word T) (hr.mono (by decide)) (b_Reader_word T) .nil pass0) pe_str (nomark _))
      (pss_one (ps_expr (pe_meth0 (pv 0) T.cl_Reader T.m_Reader_stop (ok_Reader_stop T) (hr.mono (by decide)) (b_Reader_stop T) .nil (passes_call (takes_of rfl rfl rfl rfl) (fun _ _ _ _ h => h)))))
      pss_nil)
    (pss_one (ps_ret (pe_un un_neg (pe_meth (pv 0) T.cl_Reader T.m_Reader_numeral (ok_Reader_numeral T) hr (b_Reader_numeral T) .nil (passes_call (takes_of rfl rfl rfl rfl) (fun _ _ _ _ h => h)) (pa_cons (pe_un un_neg (pv 1)) pa_nil))))))))), ?_⟩
  refine ⟨_, rfl, _, _, _, rfl, h1, rfl, ?_⟩
  refine ⟨r, ws, n, wl, i, rfl, R, ?_⟩
  refine ⟨rfl, _, rfl, ?_⟩
  by_cases hw : wAt ws i = [45]
  · refine iteF' (by rw [decide_eq_true ((strIs zm).mpr hw)]; rfl) ?_
    have em : mNumber ws n i = rb (mNum ws n 1 1000000 (i + 1)) fun v j => .ok (0 - v, j) := by
      unfold mNumber
      rw [if_pos hw]
    refine ⟨fun σ' H' => H' = H ∧ σ' = [some (.ref r), some (.int (-1000000)), some (.int 1000000)], ?_, ?_⟩
    · refine ⟨_, rfl, _, _, rfl, rfl, _, rfl, ?_⟩
      refine iteF' (by decide) ?_
      exact ⟨rfl, rfl⟩
    · rintro σ' H' ⟨rfl, rfl⟩
      refine ⟨_, rfl, _, _, _, _, _, rfl, h1, T.cl_Reader, T.n_Reader_at, rfl, _, _, rfl, rfl, _, _, h1, (by show 3 < 1000; decide), ?_⟩
      have R1 : RdAt (RC K) ws n r wl (i + 1) _ := R.step h1
      have b1 := But.one (o := .ins (RC K) dx (rFs wl n (i + 1))) (But.refl r r H')
      refine ⟨fun σ' H2 => wAt ws (i + 1) ≠ [48] ∧ RdAt (RC K) ws n r wl (i + 1) H2 ∧ But r r H' H2 ∧ σ' = [some (.ref r), some (.int (-1000000)), some (.int 1000000)], ?_, ?_⟩
      · refine ⟨_, rfl, _, _, _, rfl, upd_same, rfl, ?_⟩
        refine ⟨r, ws, n, wl, i + 1, rfl, R1, ?_⟩
        refine ⟨rfl, _, rfl, ?_⟩
        refine ite2 (fun hh => ?_) (fun hh => ?_)
        · have hw2 := (strIs z0).mp (of_decide_eq_true hh)
          refine ⟨_, rfl, _, _, _, rfl, upd_same, rfl, ?_⟩
          refine ⟨r, ws, n, wl, i + 1, rfl, R1, OutP.errS (i := 0) ?_ k b1⟩
          rw [em, mNum_zero hw2]; rfl
        · exact ⟨fun z => ndec hh ((strIs z0).mpr z), R1, b1, rfl⟩
      · rintro σ' H2 ⟨hw2, R2, b2, rfl⟩
        obtain ⟨dx, xs, h1, h2, h3⟩ := R2.ex
        refine ⟨_, rfl, _, _, _, rfl, h1, rfl, _, rfl, _, rfl, ?_⟩
        refine ⟨r, ws, n, wl, i + 1, 1000000, rfl, R2, ?_⟩
        rw [← mNum_pos hw2]
        refine OutP.bind (f := fun v j => .ok (0 - v, j)) k em b2 fun v j hv ev x H3 hx R3 b3 => ?_
        rw [hx.isInt]
        refine ⟨_, rfl, ?_⟩
        have := OutP.ok (i := 0) ev k (.int (-v)) H3 (by rw [Int.zero_sub]; exact .int _) R3 (But.trans b2 b3)
        exact this
  · refine iteT' (by rw [decide_eq_false (fun z => hw ((strIs zm).mp z))]; rfl) ?_
    have em : mNumber ws n i = mNum ws n 0 Most i := by unfold mNumber; rw [if_neg hw]
    rw [em] at k
    refine ⟨fun σ' H' => σ' = [some (.ref r), some (.int (-1000000)), some (.int 1000000)] ∧ Same H H', ?_, ?_⟩
    · refine ⟨_, rfl, _, _, _, rfl, h1, rfl, ?_⟩
      refine ⟨r, ws, n, wl, i, rfl, R, ?_⟩
      refine ⟨_, rfl, R.big i, fun H1 s1 => ?_⟩
      have R1 := R.same s1
      have h1' := s1 _ _ h1
      refine ⟨_, rfl, ?_⟩
      cases hn : isNum (wAt ws i) with
      | false =>
        refine iteF ?_
        exact ⟨rfl, s1⟩
      | true =>
        refine iteT ?_
        obtain ⟨e1, e2⟩ := int_S hn
        refine ⟨_, rfl, _, rfl, _, _, _, rfl, h1', rfl, ?_⟩
        refine ⟨r, ws, n, wl, i, rfl, R1, ?_⟩
        refine ⟨_, _, rfl, e1, e2, _, _, rfl, rfl, _, rfl, ?_⟩
        refine iteT' (decide_eq_true (by have := val_nonneg (wAt ws i); omega)) ?_
        refine ⟨_, rfl, _, _, rfl, rfl, _, rfl, ?_⟩
        refine ite2 (fun hh => ?_) (fun hh => ?_)
        · have hgt : ¬ val (wAt ws i) ≤ 1000000 := by
            cases q : decide (val (wAt ws i) ≤ 1000000) with
            | true => rw [q] at hh; cases hh
            | false => exact of_decide_eq_false q
          refine ⟨_, rfl, _, _, _, rfl, h1', rfl, ?_⟩
          exact ⟨r, ws, n, wl, i, rfl, R1, OutP.errS (i := 0) (mNum_no fun z => hgt z.2.2) k (Same.but s1)⟩
        · exact ⟨rfl, s1⟩
    · rintro σ' H' ⟨rfl, s1⟩
      have R1 := R.same s1
      refine ⟨_, rfl, _, _, _, rfl, s1 _ _ h1, rfl, _, rfl, ?_⟩
      refine ⟨r, ws, n, wl, i, 1000000, rfl, R1, ?_⟩
      refine OutP.bind (f := fun v j => .ok (v, j)) k (by cases mNum ws n 0 Most i <;> rfl) (Same.but s1) fun v j hv ev x H3 hx R3 b3 => ?_
      exact OutP.ok (i := 0) hv k x H3 hx R3 (But.trans (Same.but s1) b3)
theorem ok_Reader_end (T : Txt P K mg) : FnOk P w K mg base (L2.CX P w) 5 (He.fAd K ("Reader", some "end")) (fdO K ("Reader", some "end")) ["self"] (spEnd K) := by
  refine T.F_Reader_end.ok sc_Reader_end (fun vs H Q E h => ?_) (fun cdv A outer s H vs Q E hr h => ?_)
  · obtain ⟨r, ws, n, wl, i, rfl, _⟩ := h
    rfl
  obtain ⟨r, ws, n, wl, i, rfl, R, k⟩ := h
  obtain ⟨dx, xs, h1, h2, h3⟩ := R.ex
  refine ⟨_, (pss_one (ps_if (pt_cmpR op_lt (pe_fld (pv 0) rfl) (pe_callB call_len_seq (by rfl) T.z_len (by decide +kernel) (pa_cons (pe_fld (pv 0) rfl) pa_nil)) (nomark _))
      (pss_one (ps_expr (pe_meth0 (pv 0) T.cl_Reader T.m_Reader_stop (ok_Reader_stop T) hr (b_Reader_stop T) .nil (passes_call (takes_of rfl rfl rfl rfl) (fun _ _ _ _ h => h)))))
      pss_nil)), ?_⟩
  refine ⟨_, rfl, _, _, _, _, _, rfl, h1, T.cl_Reader, T.n_Reader_at, rfl, _, rfl, _, _, _, _, _, rfl, h1, T.cl_Reader, T.n_Reader_words, rfl, _, _, rfl, .inl (SqL.of h2), _, _, rfl, rfl, _, rfl, ?_⟩
  refine ite2 (fun hh => ?_) (fun hh => ?_)
  · have hi : i < ws.length := by have := of_decide_eq_true hh; rw [h3.1] at this; omega
    rw [if_pos hi] at k
    refine ⟨_, rfl, _, _, _, rfl, h1, rfl, ?_⟩
    exact ⟨r, ws, n, wl, i, rfl, R, k⟩
  · rw [if_neg fun z => ndec hh (by rw [h3.1]; omega)] at k
    exact k
end
end K77
namespace K77
open PySem PySem.Spec PyProof.Rows L2
open C8 (pss_cut)
theorem S_take1 {w : Wd} : cutS (S w) none (some 1) = S (w.take 1) := by
  unfold cutS
  rw [HT.sIx_none, show (1 : Int) = ((1 : Nat) : Int) from rfl, HT.sIx_nat, S_len]
  show (⟨((w.drop 0).take (Nat.min 1 w.length - 0)).toArray⟩ : Str) = _
  rw [List.drop_zero, Nat.sub_zero]
  cases w with
  | nil => rfl
  | cons a b =>
    rw [show Nat.min 1 (a :: b).length = 1 from Nat.min_eq_left (by simp)]
    rfl
theorem S_tail {w : Wd} : cutS (S w) (some 1) none = S w.tail := by
  unfold cutS
  rw [HT.sIx_none, show (1 : Int) = ((1 : Nat) : Int) from rfl, HT.sIx_nat, S_len]
  show (⟨((w.drop (Nat.min 1 w.length)).take (w.length - Nat.min 1 w.length)).toArray⟩ : Str) = _
  cases w with
  | nil => rfl
  | cons a b =>
    rw [show Nat.min 1 (a :: b).length = 1 from Nat.min_eq_left (by simp)]
    show S (b.take b.length) = _
    rw [List.take_length]
    rfl
theorem zx : (PySem.Str.ofString "x") = S [120] := by decide +kernel
theorem zt : (PySem.Str.ofString "~") = S [126] := by decide +kernel
theorem take1 {w : Wd} {c : Nat} : w.take 1 = [c] ↔ w.head? = some c := by
  cases w with
  | nil => simp
  | cons a b => simp
def spVarW : Sp := fun vs H Q _ => ∃ (w : Wd), vs = [.str (S w)] ∧ w.length ≤ sizeLine ∧ ∀ H', Same H H' → Q (.bl (decide (w.head? = some 120) && isNum w.tail)) H'
def spTVar (K : PySem.W.Frag) : Sp := fun vs H Q E => ∃ (r : Addr) (ws : List (Wd × Nat)) (n : Nat) (wl : Addr) (i : Nat) (lo hi : Int), vs = [.ref r, .int lo, .int hi] ∧ RdAt (RC K) ws n r wl i H ∧ OutP K ws n r wl H E Q Da.int (mVar ws n lo hi i)
def spTLit (K : PySem.W.Frag) : Sp := fun vs H Q E => ∃ (r : Addr) (ws : List (Wd × Nat)) (n : Nat) (wl : Addr) (i : Nat) (lo hi : Int), vs = [.ref r, .int lo, .int hi] ∧ RdAt (RC K) ws n r wl i H ∧ OutP K ws n r wl H E Q Da.int (mLit ws n lo hi i)
theorem isVar_iff {w : Wd} {lo hi : Int} : isVar w lo hi = true ↔ (w.head? = some 120 ∧ isNum w.tail = true) ∧ lo ≤ val w.tail ∧ val w.tail ≤ hi := by
  unfold isVar
  simp only [Bool.and_eq_true, decide_eq_true_eq]
  exact ⟨fun ⟨⟨⟨a, b⟩, c⟩, d⟩ => ⟨⟨a, b⟩, c, d⟩, fun ⟨⟨a, b⟩, c, d⟩ => ⟨⟨⟨a, b⟩, c⟩, d⟩⟩
section
variable {P : Program} {w : World} {K : PySem.W.Frag} {mg : Str → Option Value} {base : Heap}
theorem ok_is_variable_word (T : Txt P K mg) : FnOk P w K mg base CX0 2 (He.fAd K ("is_variable_word", none)) (fdO K ("is_variable_word", none)) ["word"] (spVarW) := by
  refine T.F_is_variable_word.ok sc_is_variable_word (fun vs H Q E h => ?_) (fun cdv A outer s H vs Q E hr h => ?_)
  · obtain ⟨x, rfl, _⟩ := h
    rfl
  obtain ⟨x, rfl, hl, k⟩ := h
  have hx : (S x).length ≤ sizeLine := by rw [S_len]; exact hl
  refine ⟨_, PSs.nox (pss_one (ps_ret (pe_and (pe_cmpR op_eq (pe_slice sl_str (pv 0) po_none (po_some pe_int)) pe_str (nomark _)) (pe_one (pe_call (ok_is_numeral T) hr rfl T.g_is_numeral T.F_is_numeral.kp (b_is_numeral T) .nil pass0 (pa_cons (pe_slice sl_str (pv 0) (po_some pe_int) po_none) pa_nil)))))), ?_⟩
  refine ⟨_, rfl, _, rfl, _, rfl, hx, rfl, _, rfl, ?_⟩
  rw [S_take1]
  refine ite2 (fun h1 => ?_) (fun h1 => ?_)
  · have hh := take1.mp ((strIs zx).mp (of_decide_eq_true h1))
    refine ⟨_, rfl, _, rfl, _, rfl, hx, ?_⟩
    rw [S_tail]
    refine ⟨_, rfl, Nat.le_trans (by rw [List.length_tail]; exact Nat.sub_le _ _) hl, fun H1 s1 => ?_⟩
    have := k H1 s1
    rw [decide_eq_true hh, Bool.true_and] at this
    exact this
  · have hh : ¬ x.head? = some 120 := fun z => ndec h1 ((strIs zx).mpr (take1.mpr z))
    have := k H (Same.refl H)
    rw [decide_eq_false hh, Bool.false_and] at this
    exact this
theorem ok_take_variable (T : Txt P K mg) : FnOk P w K mg base (L2.CX P w) 5 (He.fAd K ("take_variable", none)) (fdO K ("take_variable", none)) ["reader", "least", "most"] (spTVar K) := by
  refine T.F_take_variable.ok sc_take_variable (fun vs H Q E h => ?_) (fun cdv A outer s H vs Q E hr h => ?_)
  · obtain ⟨r, ws, n, wl, i, lo, hi, rfl, _⟩ := h
    rfl
  obtain ⟨r, ws, n, wl, i, lo, hi, rfl, R, k⟩ := h
  obtain ⟨dx, xs, h1, h2, h3⟩ := R.ex
  have hbig := R.big i
  have hbig' : (S (wAt ws i)).length ≤ sizeLine := by rw [S_len]; exact hbig
  refine ⟨_, (pss_cons (ps_set (i := 3) sc_take_variable.nd rfl (Or.inl rfl) (pe_meth0 (pv 0) T.cl_Reader T.m_Reader_word (ok_Reader_word T) (hr.mono (by decide)) (b_Reader_word T) .nil pass0))
    (pss_cut (ps_if (PW.pt (pw_or (pt_not (pt_val (pe_call (ok_is_variable_word T) (hr.mono (by decide)) rfl T.g_is_variable_word T.F_is_variable_word.kp (b_is_variable_word T) .nil pass0 (pa_cons (pv 3) pa_nil)))) (pw_or1 (pt_not (pt_chain op_le op_le (pv 1) (pe_callTy call_int_str (by rfl) T.z_int (by decide +kernel) (pa_cons (pe_slice sl_str (pv 3) (po_some pe_int) po_none) pa_nil)) (pv 2))))))
      (pss_one (ps_expr (pe_meth0 (pv 0) T.cl_Reader T.m_Reader_stop (ok_Reader_stop T) hr (b_Reader_stop T) .nil (passes_call (takes_of rfl rfl rfl rfl) (fun _ _ _ _ h => h)))))
      pss_nil)
    (pss_one (ps_ret (pe_callTy call_int_str (by rfl) T.z_int (by decide +kernel) (pa_cons (pe_slice sl_str (pe_meth0 (pv 0) T.cl_Reader T.m_Reader_taken (ok_Reader_taken T) (hr.mono (by decide)) (b_Reader_taken T) .nil pass0) (po_some pe_int) po_none) pa_nil)))))), ?_⟩
  refine ⟨_, rfl, _, _, _, rfl, h1, rfl, ?_⟩
  refine ⟨r, ws, n, wl, i, rfl, R, ?_⟩
  have bad : ¬ isVar (wAt ws i) lo hi = true → mVar ws n lo hi i = .error (pAt ws n i) := fun z => by unfold mVar; rw [if_neg z]
  refine ⟨fun σ' H' => isVar (wAt ws i) lo hi = true ∧ σ' = [some (.ref r), some (.int lo), some (.int hi), some (.str (S (wAt ws i)))] ∧ Same H H', ?_, ?_⟩
  · refine ⟨_, rfl, ?_⟩
    refine ⟨_, rfl, hbig, fun H1 s1 => ?_⟩
    have R1 := R.same s1
    refine ⟨_, rfl, ?_⟩
    cases hv : (decide ((wAt ws i).head? = some 120) && isNum (wAt ws i).tail) with
    | false =>
      refine iteT' rfl ?_
      refine iteT ?_
      refine ⟨_, rfl, _, _, _, rfl, s1 _ _ h1, rfl, ?_⟩
      exact ⟨r, ws, n, wl, i, rfl, R1, OutP.errS (i := 0) (bad fun z => by
        have := (isVar_iff.mp z).1
        rw [decide_eq_true this.1, this.2] at hv
        cases hv) k (Same.but s1)⟩
    | true =>
      have hv' : (wAt ws i).head? = some 120 ∧ isNum (wAt ws i).tail = true := by simpa using hv
      refine iteF' rfl ?_
      obtain ⟨e1, e2⟩ := int_S hv'.2
      refine ⟨_, rfl, _, rfl, _, rfl, _, rfl, hbig', ?_⟩
      rw [S_tail]
      refine ⟨_, _, rfl, e1, e2, _, _, rfl, rfl, _, rfl, ?_⟩
      refine ite2 (fun h2 => ?_) (fun h2 => ?_)
      · refine ⟨_, rfl, _, _, rfl, rfl, _, rfl, ?_⟩
        refine ite2 (fun hh => ?_) (fun hh => ?_)
        · have hgt : ¬ val (wAt ws i).tail ≤ hi := by
            cases q : decide (val (wAt ws i).tail ≤ hi) with
            | true => rw [q] at hh; cases hh
            | false => exact of_decide_eq_false q
          refine ⟨_, rfl, _, _, _, rfl, s1 _ _ h1, rfl, ?_⟩
          exact ⟨r, ws, n, wl, i, rfl, R1, OutP.errS (i := 0) (bad fun z => hgt (isVar_iff.mp z).2.2) k (Same.but s1)⟩
        · have hle : val (wAt ws i).tail ≤ hi := by
            cases q : decide (val (wAt ws i).tail ≤ hi) with
            | true => exact of_decide_eq_true q
            | false => rw [q] at hh; exact absurd rfl hh
          exact ⟨isVar_iff.mpr ⟨hv', of_decide_eq_true h2, hle⟩, rfl, s1⟩
      · refine ⟨_, rfl, ?_⟩
        refine iteT ?_
        refine ⟨_, rfl, _, _, _, rfl, s1 _ _ h1, rfl, ?_⟩
        exact ⟨r, ws, n, wl, i, rfl, R1, OutP.errS (i := 0) (bad fun z => ndec h2 (isVar_iff.mp z).2.1) k (Same.but s1)⟩
  · rintro σ' H' ⟨hv, rfl, s1⟩
    have R1 := R.same s1
    refine ⟨_, rfl, _, _, _, rfl, s1 _ _ h1, rfl, ?_⟩
    refine ⟨r, ws, n, wl, i, rfl, R1, fun H2 R2 b2 => ?_⟩
    refine ⟨_, rfl, _, rfl, hbig', ?_⟩
    rw [S_tail]
    obtain ⟨e1, e2⟩ := int_S (isVar_iff.mp hv).1.2
    refine ⟨_, _, rfl, e1, e2, ?_⟩
    exact OutP.ok (i := 0) (by unfold mVar; rw [if_pos hv]) k _ _ (.int _) R2 (But.trans (Same.but s1) b2)
theorem ok_take_literal (T : Txt P K mg) : FnOk P w K mg base (L2.CX P w) 6 (He.fAd K ("take_literal", none)) (fdO K ("take_literal", none)) ["reader", "least", "most"] (spTLit K) := by
  refine T.F_take_literal.ok sc_take_literal (fun vs H Q E h => ?_) (fun cdv A outer s H vs Q E hr h => ?_)
  · obtain ⟨r, ws, n, wl, i, lo, hi, rfl, _⟩ := h
    rfl
  obtain ⟨r, ws, n, wl, i, lo, hi, rfl, R, k⟩ := h
  obtain ⟨dx, xs, h1, h2, h3⟩ := R.ex
  refine ⟨_, (pss_cons (ps_set (i := 3) sc_take_literal.nd rfl (Or.inl rfl) (pe_meth (pv 0) T.cl_Reader T.m_Reader_goes_on (ok_Reader_goes_on T) (hr.mono (by decide)) (b_Reader_goes_on T) .nil pass0 (pa_cons pe_str pa_nil)))
    (pss_one (ps_ret (pe_op op_add (pe_op op_mul pe_int (pe_call (ok_take_variable T) hr rfl T.g_take_variable T.F_take_variable.kp (b_take_variable T) .nil (passes_call (takes_of rfl rfl rfl rfl) (fun _ _ _ _ h => h)) (pa_cons (pv 0) (pa_cons (pv 1) (pa_cons (pv 2) pa_nil))))) (pe_callTy call_int1 (by rfl) T.z_int (by decide +kernel) (pa_cons (pv 3) pa_nil)))))), ?_⟩
  refine ⟨_, rfl, _, _, _, rfl, h1, rfl, ?_⟩
  refine ⟨r, ws, n, wl, i, [126], by rw [zt]; rfl, R, fun H1 b1 R1 => ?_⟩
  refine ⟨_, rfl, _, rfl, _, rfl, ?_⟩
  by_cases hw : wAt ws i = [126]
  · rw [if_pos hw] at R1
    rw [decide_eq_true hw]
    refine ⟨r, ws, n, wl, i + 1, lo, hi, rfl, R1, ?_⟩
    have em : mLit ws n lo hi i = rb (mVar ws n lo hi (i + 1)) fun v j => .ok (2 * v + 1, j) := by
      unfold mLit
      rw [if_pos hw]
    refine OutP.bind k em b1 fun v j hv ev x H3 hx R3 b3 => ?_
    rw [hx.isInt]
    refine ⟨_, _, rfl, rfl, .inl (by decide), _, rfl, .inr ⟨_, rfl, ?_⟩⟩
    refine ⟨_, _, rfl, rfl, ?_⟩
    exact OutP.ok (i := 0) ev k _ _ (.int _) R3 (But.trans b1 b3)
  · rw [if_neg hw] at R1
    rw [decide_eq_false hw]
    refine ⟨r, ws, n, wl, i, lo, hi, rfl, R1, ?_⟩
    have em : mLit ws n lo hi i = rb (mVar ws n lo hi i) fun v j => .ok (2 * v, j) := by
      unfold mLit
      rw [if_neg hw]
    refine OutP.bind k em b1 fun v j hv ev x H3 hx R3 b3 => ?_
    rw [hx.isInt]
    refine ⟨_, _, rfl, rfl, .inl (by decide), _, rfl, .inr ⟨_, rfl, ?_⟩⟩
    refine ⟨_, _, rfl, rfl, ?_⟩
    have := OutP.ok (i := 0) ev k _ _ (.int _) R3 (But.trans b1 b3)
    rw [← Int.add_zero (2 * v)] at this
    exact this
end
end K77
namespace K77
open PySem PySem.Spec PyProof.Rows L2
/-! the mirror by rb, and how far it goes -/
section
variable {ws : List (Wd × Nat)} {n : Nat}
theorem mTerm_rb (lo last : Int) (i : Nat) : mTerm ws n lo last i = rb (mNum ws n 1 Most i) fun w j => rb (mLit ws n lo last j) fun l k => .ok ((l, w), k) := rfl
theorem rb_rb {α β γ : Type} (m : Rd α) (f : α → Nat → Rd β) (g : β → Nat → Rd γ) : rb (rb m f) g = rb m fun v j => rb (f v j) g := by
  cases m <;> rfl
theorem rb_ok {α β : Type} (v : α) (j : Nat) (f : α → Nat → Rd β) : rb (.ok (v, j)) f = f v j := rfl
theorem rb_inv {α β : Type} {m : Rd α} {f : α → Nat → Rd β} {v : β} {k : Nat} (h : rb m f = .ok (v, k)) : ∃ u j, m = .ok (u, j) ∧ f u j = .ok (v, k) := by
  cases m with
  | error p => cases h
  | ok q => exact ⟨q.1, q.2, rfl, h⟩
theorem mLoop_rb (f : Nat) (last : Int) (acc : Tm) (i : Nat) : mLoop ws n (f + 1) last acc i = if wAt ws i = [43] then rb (mTerm ws n (lastLit acc / 2 + 1) last (i + 1)) fun q k => mLoop ws n f last (acc ++ [q]) k else .ok (acc, i) := by rw [mLoop]
theorem mTerms_rb (last : Int) (i : Nat) : mTerms ws n last i = if wAt ws i = [48] then .ok ([], i + 1) else rb (mTerm ws n 0 last i) fun q k => mLoop ws n ws.length last [q] k := rfl
theorem mSum_rb (last : Int) (i : Nat) : mSum ws n last i = rb (mTerms ws n last i) fun t j => rb (mMark ws n [62] j) fun _ k => rb (mMark ws n [61] k) fun _ l => rb (mNumber ws n l) fun v m => .ok ((t, v), m) := rfl
theorem mPrice_rb (last : Int) (i : Nat) : mPrice ws n last i = rb (mTerms ws n last i) fun t j => rb (mMark ws n sFrom j) fun _ k => rb (mNumber ws n k) fun v m => .ok ((t, v), m) := rfl
theorem mSums_rb (f : Nat) (last : Int) (acc : List (Tm × Int)) (i : Nat) : mSums ws n (f + 1) last acc i = if wAt ws i = [59] then rb (mSum ws n last (i + 1)) fun q k => mSums ws n f last (acc ++ [q]) k else .ok (acc, i) := by rw [mSums]
theorem mNum_le {lo hi : Int} {i j : Nat} {v : Int} (h : mNum ws n lo hi i = .ok (v, j)) : j = i + 1 := by
  unfold mNum at h
  split at h
  · cases h; rfl
  · cases h
theorem mMark_le {s : Wd} {i j : Nat} {v : Unit} (h : mMark ws n s i = .ok (v, j)) : j = i + 1 := by
  unfold mMark at h
  split at h
  · cases h; rfl
  · cases h
theorem mNumber_le {i j : Nat} {v : Int} (h : mNumber ws n i = .ok (v, j)) : i < j := by
  unfold mNumber at h
  split at h
  · cases e : mNum ws n 1 Most (i + 1) with
    | error p => rw [e] at h; cases h
    | ok q =>
      rw [e] at h
      have := mNum_le (v := q.1) (j := q.2) e
      cases h
      omega
  · have := mNum_le h
    omega
theorem mVar_le {lo hi : Int} {i j : Nat} {v : Int} (h : mVar ws n lo hi i = .ok (v, j)) : j = i + 1 := by
  unfold mVar at h
  split at h
  · cases h; rfl
  · cases h
theorem mLit_le {lo hi : Int} {i j : Nat} {v : Int} (h : mLit ws n lo hi i = .ok (v, j)) : i < j := by
  unfold mLit at h
  split at h
  · cases e : mVar ws n lo hi (i + 1) with
    | error p => rw [e] at h; cases h
    | ok q =>
      rw [e] at h
      have := mVar_le (v := q.1) (j := q.2) e
      cases h
      omega
  · cases e : mVar ws n lo hi i with
    | error p => rw [e] at h; cases h
    | ok q =>
      rw [e] at h
      have := mVar_le (v := q.1) (j := q.2) e
      cases h
      omega
theorem mTerm_le {lo last : Int} {i k : Nat} {v : Int × Int} (h : mTerm ws n lo last i = .ok (v, k)) : i < k := by
  rw [mTerm_rb] at h
  obtain ⟨w, j, h1, h2⟩ := rb_inv h
  obtain ⟨l, k', h3, h4⟩ := rb_inv h2
  have := mNum_le h1
  have := mLit_le h3
  cases h4
  omega
theorem mLoop_le : ∀ {f : Nat} {last : Int} {acc : Tm} {i k : Nat} {v : Tm}, mLoop ws n f last acc i = .ok (v, k) → i ≤ k
  | 0, _, _, _, _, _, h => by rw [mLoop] at h; cases h; exact Nat.le_refl _
  | f + 1, last, acc, i, k, v, h => by
    rw [mLoop_rb] at h
    split at h
    · obtain ⟨q, j, h1, h2⟩ := rb_inv h
      have := mTerm_le h1
      have := mLoop_le h2
      omega
    · cases h; exact Nat.le_refl _
theorem mTerms_le {last : Int} {i k : Nat} {v : Tm} (h : mTerms ws n last i = .ok (v, k)) : i < k := by
  rw [mTerms_rb] at h
  split at h
  · cases h; exact Nat.lt_succ_self _
  · obtain ⟨q, j, h1, h2⟩ := rb_inv h
    have := mTerm_le h1
    have := mLoop_le h2
    omega
theorem mSum_le {last : Int} {i k : Nat} {v : Tm × Int} (h : mSum ws n last i = .ok (v, k)) : i < k := by
  rw [mSum_rb] at h
  obtain ⟨t, j, h1, h2⟩ := rb_inv h
  obtain ⟨_, k1, h3, h4⟩ := rb_inv h2
  obtain ⟨_, l, h5, h6⟩ := rb_inv h4
  obtain ⟨x, m, h7, h8⟩ := rb_inv h6
  have := mTerms_le h1
  have := mMark_le h3
  have := mMark_le h5
  have := mNumber_le h7
  cases h8
  omega
theorem wAt_in {i : Nat} {c : Nat} {w : Wd} (h : wAt ws i = c :: w) : i < ws.length := by
  by_cases hi : i < ws.length
  · exact hi
  · rw [wAt_out hi] at h; cases h
theorem semis_drop {i j : Nat} (h : i ≤ j) : semis (ws.drop j) ≤ semis (ws.drop i) := by
  have e : ws.drop i = (ws.drop i).take (j - i) ++ ws.drop j := by
    have := (List.take_append_drop (j - i) (ws.drop i)).symm
    rw [List.drop_drop, show i + (j - i) = j by omega] at this
    exact this
  rw [e, semis_app]
  omega
theorem semis_at {i : Nat} (h : wAt ws i = [59]) : semis (ws.drop i) = semis (ws.drop (i + 1)) + 1 := by
  have hi := wAt_in h
  rw [List.drop_eq_getElem_cons hi]
  have : ws[i].1 = [59] := by
    unfold wAt at h
    rw [List.getElem?_eq_getElem hi] at h
    exact h
  unfold semis
  rw [List.filter_cons, if_pos (decide_eq_true this), List.length_cons]
end
def dTm (q : Int × Int) : Da := .tup [.int q.1, .int q.2]
def dTms (t : Tm) : Da := .tup (t.map dTm)
def dSum (q : Tm × Int) : Da := .tup [dTms q.1, .int q.2]
def dPr : Option (Tm × Int) → Da
  | none => .non
  | some q => dSum q
def dPb (p : Pb) : Da := .tup [.int p.1, .tup (p.2.1.map dSum), dPr p.2.2]
theorem lastLit_snoc (acc : Tm) (q : Int × Int) : lastLit (acc ++ [q]) = q.1 := by
  unfold lastLit
  rw [List.getLast?_append]
  rfl
end K77
namespace K77
open PySem PySem.Spec PyProof.Rows L2
open C8 (pss_cut)
theorem RdAt.ref {C : Addr} {ws : List (Wd × Nat)} {n i : Nat} {r wl : Addr} {H : Hp} {p : Addr} (R : RdAt C ws n r wl i H) (np : H p = none) : p ≠ r ∧ p ≠ wl := by
  obtain ⟨dx, xs, h1, h2, _⟩ := R.ex
  exact ⟨(ne_of_none h1 np).symm, (ne_of_none h2 np).symm⟩
theorem RdAt.new {C : Addr} {ws : List (Wd × Nat)} {n i : Nat} {r wl : Addr} {H : Hp} {p : Addr} {o : HO} (R : RdAt C ws n r wl i H) (np : H p = none) : RdAt C ws n r wl i (upd H p o) := R.same (Same.new (Same.refl H) np)
theorem RdAt.bnew {C : Addr} {ws : List (Wd × Nat)} {n i : Nat} {r wl : Addr} {H0 H : Hp} {p : Addr} {o : HO} (R : RdAt C ws n r wl i H) (b : But r r H0 H) (np : H p = none) : But r r H0 (upd H p o) :=
  But.new b (But.free b (R.ref np).1 (R.ref np).1 np)
theorem Tups.set {H : Hp} {p : Addr} {ys : List V} {o : HO} (h : H p = some (.lst ys)) : Tups H (upd H p o) := fun b xs e => by
  rw [upd_ne (fun z => by rw [z, h] at e; cases e)]
  exact e
theorem RdAt.set {C : Addr} {ws : List (Wd × Nat)} {n i : Nat} {r wl : Addr} {H : Hp} {p : Addr} {ys : List V} {o : HO} (R : RdAt C ws n r wl i H) (h : H p = some (.lst ys)) (hw : p ≠ wl) : RdAt C ws n r wl i (upd H p o) := by
  obtain ⟨dx, xs, h1, h2, h3⟩ := R.ex
  have hr : r ≠ p := fun z => by rw [← z, h1] at h; cases h
  exact ⟨⟨dx, xs, by rw [upd_ne hr]; exact h1, by rw [upd_ne hw.symm]; exact h2, h3.mono (Tups.set h)⟩, R.big, R.cnt⟩
theorem OutP.from {α : Type} {K : PySem.W.Frag} {ws : List (Wd × Nat)} {n : Nat} {r wl : Addr} {H H1 : Hp} {E : XK} {Q : VK} {enc : α → Da} {m : Rd α} (k : OutP K ws n r wl H E Q enc m) (b : But r r H H1) : OutP K ws n r wl H1 E Q enc m := by
  cases m with
  | ok q => exact fun x H' hx R b' => k x H' hx R (But.trans b b')
  | error p => exact fun d H' hd b' => k d H' hd (But.trans b b')
theorem DAs.last {H : Hp} : ∀ {xs : List V} {ds : List Da} {d : Da}, DAs H xs (ds ++ [d]) → ∃ xs' x, xs = xs' ++ [x] ∧ DAs H xs' ds ∧ DA H x d
  | _, [], _, h => by
    cases h with
    | cons a b => cases b; exact ⟨[], _, rfl, .nil, a⟩
  | _, e :: ds, d, h => by
    cases h with
    | cons a b =>
      obtain ⟨xs', x, rfl, h1, h2⟩ := DAs.last (ds := ds) b
      exact ⟨_ :: xs', x, rfl, .cons a h1, h2⟩
theorem DA.tm {H : Hp} {x : V} {q : Int × Int} (h : DA H x (dTm q)) : ∃ a, x = .ref a ∧ H a = some (.tup [.int q.1, .int q.2]) := by
  cases h with
  | tup ha hs =>
    cases hs with
    | cons h1 h2 =>
      cases h2 with
      | cons h2 h3 =>
        cases h1; cases h2; cases h3
        exact ⟨_, rfl, ha⟩
theorem DA.ofTm {H : Hp} {a : Addr} {q : Int × Int} (h : H a = some (.tup [.int q.1, .int q.2])) : DA H (.ref a) (dTm q) := .tup h (.cons (.int _) (.cons (.int _) .nil))
def spTerms (K : PySem.W.Frag) : Sp := fun vs H Q E => ∃ (r : Addr) (ws : List (Wd × Nat)) (n : Nat) (wl : Addr) (i : Nat) (last : Int), vs = [.ref r, .int last, .int 1000000] ∧ RdAt (RC K) ws n r wl i H ∧ OutP K ws n r wl H E Q dTms (mTerms ws n last i)
def spSum (K : PySem.W.Frag) : Sp := fun vs H Q E => ∃ (r : Addr) (ws : List (Wd × Nat)) (n : Nat) (wl : Addr) (i : Nat) (last : Int), vs = [.ref r, .int last, .int 1000000] ∧ RdAt (RC K) ws n r wl i H ∧ OutP K ws n r wl H E Q dSum (mSum ws n last i)
def spPrice (K : PySem.W.Frag) : Sp := fun vs H Q E => ∃ (r : Addr) (ws : List (Wd × Nat)) (n : Nat) (wl : Addr) (i : Nat) (last : Int), vs = [.ref r, .int last, .int 1000000] ∧ RdAt (RC K) ws n r wl i H ∧ OutP K ws n r wl H E Q dSum (mPrice ws n last i)
theorem zp : (PySem.Str.ofString "+") = S [43] := by decide +kernel
theorem zgt : (PySem.Str.ofString ">") = S [62] := by decide +kernel
theorem zeq : (PySem.Str.ofString "=") = S [61] := by decide +kernel
theorem zfrom : (PySem.Str.ofString "from") = S sFrom := by decide +kernel
theorem zprice : (PySem.Str.ofString "price") = S sPrice := by decide +kernel
theorem zproblem : (PySem.Str.ofString "problem") = S sProblem := by decide +kernel
theorem zsemi : (PySem.Str.ofString ";") = S [59] := by decide +kernel
section
variable {P : Program} {w : World} {K : PySem.W.Frag} {mg : Str → Option Value} {base : Heap}
theorem ok_take_terms (T : Txt P K mg) : FnOk P w K mg base (L2.CX P w) 7 (He.fAd K ("take_terms", none)) (fdO K ("take_terms", none)) ["reader", "last", "most"] (spTerms K) := by
  refine T.F_take_terms.ok sc_take_terms (fun vs H Q E h => ?_) (fun cdv A outer s H vs Q E hr h => ?_)
  · obtain ⟨r, ws, n, wl, i, last, rfl, _⟩ := h
    rfl
  obtain ⟨r, ws, n, wl, i0, last, rfl, R, k⟩ := h
  obtain ⟨dx, xs, h1, h2, h3⟩ := R.ex
  refine ⟨_, (pss_cons (ps_if (pt_val (pe_meth (pv 0) T.cl_Reader T.m_Reader_goes_on (ok_Reader_goes_on T) (hr.mono (by decide)) (b_Reader_goes_on T) .nil pass0 (pa_cons pe_str pa_nil)))
      (pss_one (ps_ret (pe_tup pa_nil)))
      pss_nil)
    (pss_cons (ps_set (i := 3) sc_take_terms.nd rfl (Or.inl rfl) (pe_call (ok_take_weight T) hr rfl T.g_take_weight T.F_take_weight.kp (b_take_weight T) .nil (passes_call (takes_of rfl rfl rfl rfl) (fun _ _ _ _ h => h)) (pa_cons (pv 0) (pa_cons (pv 2) pa_nil))))
    (pss_cons (ps_set (i := 4) sc_take_terms.nd rfl (Or.inl rfl) (pe_lst (pa_cons (pe_tup (pa_cons (pe_call (ok_take_literal T) hr rfl T.g_take_literal T.F_take_literal.kp (b_take_literal T) .nil (passes_call (takes_of rfl rfl rfl rfl) (fun _ _ _ _ h => h)) (pa_cons (pv 0) (pa_cons pe_int (pa_cons (pv 1) pa_nil)))) (pa_cons (pv 3) pa_nil))) pa_nil)))
    (pss_cons (ps_while (passes_of rfl) (pt_val (pe_meth (pv 0) T.cl_Reader T.m_Reader_goes_on (ok_Reader_goes_on T) (hr.mono (by decide)) (b_Reader_goes_on T) .nil pass0 (pa_cons pe_str pa_nil)))
      (pss_cons (ps_set (i := 3) sc_take_terms.nd rfl (Or.inl rfl) (pe_call (ok_take_weight T) hr rfl T.g_take_weight T.F_take_weight.kp (b_take_weight T) .nil (passes_call (takes_of rfl rfl rfl rfl) (fun _ _ _ _ h => h)) (pa_cons (pv 0) (pa_cons (pv 2) pa_nil))))
      (pss_one (ps_expr (pe_bm PySem.F.plainAttrs_list PySem.F.slot_list_append PySem.F.type_list_append mt_append (pv 4) (pa_cons (pe_tup (pa_cons (pe_call (ok_take_literal T) hr rfl T.g_take_literal T.F_take_literal.kp (b_take_literal T) .nil (passes_call (takes_of rfl rfl rfl rfl) (fun _ _ _ _ h => h)) (pa_cons (pv 0) (pa_cons (pe_op op_add (pe_op op_fdivN (pe_ix ix_tup (pe_ix ix_list (pv 4) (pe_un un_neg pe_int) (fun _ _ => rfl)) pe_int (fun _ _ => rfl)) pe_int) pe_int) (pa_cons (pv 1) pa_nil)))) (pa_cons (pv 3) pa_nil))) pa_nil))))))
    (pss_one (ps_ret (pe_callTy call_tuple_of (by rfl) T.z_tuple (by decide +kernel) (pa_cons (pv 4) pa_nil)))))))), ?_⟩
  refine ⟨_, rfl, _, _, _, rfl, h1, rfl, ?_⟩
  refine ⟨r, ws, n, wl, i0, [48], by rw [z0]; rfl, R, fun H1 b1 R1 => ?_⟩
  refine ⟨_, rfl, ?_⟩
  by_cases hw : wAt ws i0 = [48]
  · rw [if_pos hw] at R1
    refine iteT' (decide_eq_true hw) ?_
    refine ⟨(by show 0 ≤ sizeLine; decide), fun p2 np2 => ?_⟩
    exact OutP.ok (i := 0) (by rw [mTerms_rb, if_pos hw]) k _ _ (.tup upd_same .nil) (R1.new np2) (R1.bnew b1 np2)
  · rw [if_neg hw] at R1
    refine iteF' (decide_eq_false hw) ?_
    have em : mTerms ws n last i0 = rb (mNum ws n 1 1000000 i0) fun wt j => rb (mLit ws n 0 last j) fun l k => mLoop ws n ws.length last [(l, wt)] k := by
      rw [mTerms_rb, if_neg hw, mTerm_rb, rb_rb]
      congr 1
      funext wt j
      rw [rb_rb]
      rfl
    refine ⟨_, rfl, _, rfl, ?_⟩
    refine ⟨r, ws, n, wl, i0, 1000000, rfl, R1, OutP.bind k em b1 fun wt j hv ev x H2 hx R2 b2 => ?_⟩
    rw [hx.isInt]
    refine ⟨_, rfl, _, rfl, ?_⟩
    have b12 := But.trans b1 b2
    refine ⟨r, ws, n, wl, j, 0, last, rfl, R2, OutP.bind k ev b12 fun l j2 hv2 ev2 x H3 hx R3 b3 => ?_⟩
    rw [hx.isInt]
    have b13 := But.trans b12 b3
    refine ⟨_, rfl, (by show 2 ≤ sizeLine; decide), fun p3 np3 => ?_⟩
    refine ⟨(by show 1 ≤ sizeLine; decide), fun p4 np4 => ?_⟩
    have R3a := R3.new (o := .tup [.int l, .int wt]) np3
    have b3a := R3.bnew (o := .tup [.int l, .int wt]) b13 np3
    have R4 := R3a.new (o := .lst [.ref p3]) np4
    have b4 := R3a.bnew (o := .lst [.ref p3]) b3a np4
    have hp4 := R3a.ref np4
    have np40 : H p4 = none := But.free b3a hp4.1 hp4.1 np4
    have p34 : p3 ≠ p4 := ne_of_none upd_same np4
    have hj := mNum_le hv
    have hj2 := mLit_le hv2
    refine ⟨fun m σ' H' => ∃ (acc : Tm) (q : Int × Int) (i : Nat) (wt : Int) (ys : List V) (a : Addr), σ' = [some (.ref r), some (.int last), some (.int 1000000), some (.int wt), some (.ref p4)] ∧ RdAt (RC K) ws n r wl i H' ∧ But r r H H' ∧
      H' p4 = some (.lst (ys ++ [.ref a])) ∧ DAs H' ys (acc.map dTm) ∧ H' a = some (.tup [.int q.1, .int q.2]) ∧ mTerms ws n last i0 = mLoop ws n m last (acc ++ [q]) i ∧ ws.length ≤ i + m ∧ acc.length + 1 ≤ i, ⟨ws.length, [], (l, wt), j2, wt, [], p3, rfl, R4, b4, upd_same, .nil, by rw [upd_ne p34]; exact upd_same, ev2, by omega, by show 0 + 1 ≤ _; omega⟩, ?_⟩
    rintro m σ' H' ⟨acc, q, i, wt, ys, a, rfl, R5, b5, hl, hys, ha, hm, hf, hlen⟩
    obtain ⟨dx, xs, h1, h2, h3⟩ := R5.ex
    refine ⟨_, rfl, _, _, _, rfl, h1, rfl, ?_⟩
    refine ⟨r, ws, n, wl, i, [43], by rw [zp]; rfl, R5, fun H6 b6 R6 => ?_⟩
    have t6 := R5.tups b6
    have hl6 := b6 _ _ hp4.1 hp4.1 hl
    have ha6 := t6 _ _ ha
    have hys6 := hys.mono t6
    have b56 := But.trans b5 b6
    refine ⟨_, rfl, ?_⟩
    by_cases hw : wAt ws i = [43]
    · rw [if_pos hw] at R6
      have hi := wAt_in hw
      refine iteT' (decide_eq_true hw) ?_
      refine ⟨_, fun _ _ q => q, ?_⟩
      cases m with
      | zero => omega
      | succ m =>
        rw [mLoop_rb, if_pos hw, lastLit_snoc] at hm
        have em : mTerms ws n last i0 = rb (mNum ws n 1 1000000 (i + 1)) fun wt j => rb (mLit ws n (q.1 / 2 + 1) last j) fun l k => mLoop ws n m last (acc ++ [q] ++ [(l, wt)]) k := by
          rw [hm, mTerm_rb, rb_rb]
          congr 1
          funext wt j
          rw [rb_rb]
          rfl
        refine ⟨_, rfl, _, rfl, ?_⟩
        refine ⟨r, ws, n, wl, i + 1, 1000000, rfl, R6, OutP.bind k em b56 fun wt j hv ev x H7 hx R7 b7 => ?_⟩
        rw [hx.isInt]
        have t7 := R6.tups b7
        have hl7 := b7 _ _ hp4.1 hp4.1 hl6
        have ha7 := t7 _ _ ha6
        have hys7 := hys6.mono t7
        have b57 := But.trans b56 b7
        refine ⟨_, rfl, .inl ⟨rfl, _, SqL.of hl7⟩, _, rfl, _, rfl, _, rfl, _, _, _, _, rfl, rfl, SqL.of hl7, atI_last _ _, _, _, _, _, rfl, rfl, SqT.of ha7, atI_nat (j := 0) rfl, _, _, rfl, rfl, ⟨by decide, by decide⟩, _, _, rfl, rfl, _, rfl, ?_⟩
        rw [Int.fdiv_eq_ediv_of_nonneg _ (by decide)]
        refine ⟨r, ws, n, wl, j, q.1 / 2 + 1, last, rfl, R7, OutP.bind k ev b57 fun l j2 hv2 ev2 x H8 hx R8 b8 => ?_⟩
        rw [hx.isInt]
        have t8 := R7.tups b8
        have hl8 := b8 _ _ hp4.1 hp4.1 hl7
        have ha8 := t8 _ _ ha7
        have hys8 := hys7.mono t8
        have b58 := But.trans b57 b8
        refine ⟨_, rfl, (by show 2 ≤ sizeLine; decide), fun p6 np6 => ?_⟩
        have p64 : p4 ≠ p6 := ne_of_none hl8 np6
        have hl9 : upd H8 p6 (.tup [.int l, .int wt]) p4 = some (.lst (ys ++ [.ref a])) := by rw [upd_ne p64]; exact hl8
        have hyl := hys.length
        rw [List.length_map] at hyl
        refine ⟨_, _, _, rfl, rfl, hl9, (by have := R.cnt; rw [List.length_append]; show ys.length + 1 < _; omega), ?_⟩
        have R9 := R8.new (o := .tup [.int l, .int wt]) np6
        have b9 := R8.bnew (o := .tup [.int l, .int wt]) b58 np6
        have t9 : Tups H8 (upd (upd H8 p6 (.tup [.int l, .int wt])) p4 (.lst (ys ++ [.ref a] ++ [.ref p6]))) := (Tups.new (Tups.refl H8) np6).trans (Tups.set hl9)
        have := mNum_le hv
        have := mLit_le hv2
        refine ⟨m, Nat.lt_succ_self m, acc ++ [q], (l, wt), j2, wt, ys ++ [.ref a], p6, rfl, R9.set hl9 hp4.2, But.new b9 np40, upd_same, ?_, ?_, ev2, by omega, by rw [List.length_append]; show acc.length + 1 + 1 ≤ _; omega⟩
        · rw [List.map_append]
          exact DAs.snoc (hys8.mono t9) (DA.ofTm (t9 _ _ ha8))
        · rw [upd_ne p64.symm]
          exact upd_same
    · rw [if_neg hw] at R6
      refine iteF' (decide_eq_false hw) ?_
      refine ⟨_, rfl, _, _, rfl, .inl ⟨SqL.of hl6, fun p7 np7 => ?_⟩⟩
      have hm' : mTerms ws n last i0 = .ok (acc ++ [q], i) := by
        rw [hm]
        cases m with
        | zero => rw [mLoop]
        | succ m => rw [mLoop_rb, if_neg hw]
      have t7 : Tups H6 (upd H6 p7 (.tup (ys ++ [.ref a]))) := Tups.new (Tups.refl H6) np7
      refine OutP.ok (i := 0) hm' k _ _ (.tup upd_same ?_) (R6.new np7) (R6.bnew b56 np7)
      rw [List.map_append]
      exact DAs.snoc (hys6.mono t7) (DA.ofTm (t7 _ _ ha6))
end
end K77
namespace K77
open PySem PySem.Spec PyProof.Rows L2
open C8 (pss_cut)
section
variable {P : Program} {w : World} {K : PySem.W.Frag} {mg : Str → Option Value} {base : Heap}
theorem ok_take_sum (T : Txt P K mg) : FnOk P w K mg base (L2.CX P w) 8 (He.fAd K ("take_sum", none)) (fdO K ("take_sum", none)) ["reader", "last", "most"] (spSum K) := by
  refine T.F_take_sum.ok sc_take_sum (fun vs H Q E h => ?_) (fun cdv A outer s H vs Q E hr h => ?_)
  · obtain ⟨r, ws, n, wl, i, last, rfl, _⟩ := h
    rfl
  obtain ⟨r, ws, n, wl, i, last, rfl, R, k⟩ := h
  refine ⟨_, (pss_cons (ps_set (i := 3) sc_take_sum.nd rfl (Or.inl rfl) (pe_call (ok_take_terms T) hr rfl T.g_take_terms T.F_take_terms.kp (b_take_terms T) .nil (passes_call (takes_of rfl rfl rfl rfl) (fun _ _ _ _ h => h)) (pa_cons (pv 0) (pa_cons (pv 1) (pa_cons (pv 2) pa_nil)))))
    (pss_cons (ps_expr (pe_meth (pv 0) T.cl_Reader T.m_Reader_mark (ok_Reader_mark T) (hr.mono (by decide)) (b_Reader_mark T) .nil (passes_call (takes_of rfl rfl rfl rfl) (fun _ _ _ _ h => h)) (pa_cons pe_str pa_nil)))
    (pss_cons (ps_expr (pe_meth (pv 0) T.cl_Reader T.m_Reader_mark (ok_Reader_mark T) (hr.mono (by decide)) (b_Reader_mark T) .nil (passes_call (takes_of rfl rfl rfl rfl) (fun _ _ _ _ h => h)) (pa_cons pe_str pa_nil)))
    (pss_one (ps_ret (pe_tup (pa_cons (pv 3) (pa_cons (pe_meth (pv 0) T.cl_Reader T.m_Reader_number (ok_Reader_number T) (hr.mono (by decide)) (b_Reader_number T) .nil (passes_call (takes_of rfl rfl rfl rfl) (fun _ _ _ _ h => h)) (pa_cons (pe_un un_neg (pv 2)) (pa_cons (pv 2) pa_nil))) pa_nil)))))))), ?_⟩
  refine ⟨_, rfl, _, rfl, _, rfl, ?_⟩
  refine ⟨r, ws, n, wl, i, last, rfl, R, OutP.bind k (mSum_rb last i) (But.refl r r H) fun t j hv ev x H1 hx R1 b1 => ?_⟩
  obtain ⟨dx, xs, h1, h2, h3⟩ := R1.ex
  refine ⟨_, rfl, _, _, _, rfl, h1, rfl, ?_⟩
  refine ⟨r, ws, n, wl, j, [62], by rw [zgt]; rfl, R1, OutP.bind k ev b1 fun _ j2 hv2 ev2 y H2 hy R2 b2 => ?_⟩
  have hx2 := hx.mono (R1.tups b2)
  have b12 := But.trans b1 b2
  obtain ⟨dx, xs, h1, h2, h3⟩ := R2.ex
  refine ⟨_, rfl, _, _, _, rfl, h1, rfl, ?_⟩
  refine ⟨r, ws, n, wl, j2, [61], by rw [zeq]; rfl, R2, OutP.bind k ev2 b12 fun _ j3 hv3 ev3 y H3 hy R3 b3 => ?_⟩
  have hx3 := hx2.mono (R2.tups b3)
  have b13 := But.trans b12 b3
  obtain ⟨dx, xs, h1, h2, h3⟩ := R3.ex
  refine ⟨_, rfl, _, rfl, _, _, _, rfl, h1, rfl, _, rfl, _, rfl, _, rfl, ?_⟩
  refine ⟨r, ws, n, wl, j3, rfl, R3, OutP.bind k ev3 b13 fun v j4 hv4 ev4 y H4 hy R4 b4 => ?_⟩
  have hx4 := hx3.mono (R3.tups b4)
  have b14 := But.trans b13 b4
  rw [hy.isInt]
  refine ⟨(by show 2 ≤ sizeLine; decide), fun p1 np1 => ?_⟩
  have t5 : Tups H4 (upd H4 p1 (.tup [x, .int v])) := Tups.new (Tups.refl H4) np1
  exact OutP.ok (i := 0) ev4 k _ _ (.tup upd_same (.cons (hx4.mono t5) (.cons (.int _) .nil))) (R4.new np1) (R4.bnew b14 np1)
theorem ok_take_price (T : Txt P K mg) : FnOk P w K mg base (L2.CX P w) 8 (He.fAd K ("take_price", none)) (fdO K ("take_price", none)) ["reader", "last", "most"] (spPrice K) := by
  refine T.F_take_price.ok sc_take_price (fun vs H Q E h => ?_) (fun cdv A outer s H vs Q E hr h => ?_)
  · obtain ⟨r, ws, n, wl, i, last, rfl, _⟩ := h
    rfl
  obtain ⟨r, ws, n, wl, i, last, rfl, R, k⟩ := h
  refine ⟨_, (pss_cons (ps_set (i := 3) sc_take_price.nd rfl (Or.inl rfl) (pe_call (ok_take_terms T) hr rfl T.g_take_terms T.F_take_terms.kp (b_take_terms T) .nil (passes_call (takes_of rfl rfl rfl rfl) (fun _ _ _ _ h => h)) (pa_cons (pv 0) (pa_cons (pv 1) (pa_cons (pv 2) pa_nil)))))
    (pss_cons (ps_expr (pe_meth (pv 0) T.cl_Reader T.m_Reader_mark (ok_Reader_mark T) (hr.mono (by decide)) (b_Reader_mark T) .nil (passes_call (takes_of rfl rfl rfl rfl) (fun _ _ _ _ h => h)) (pa_cons pe_str pa_nil)))
    (pss_one (ps_ret (pe_tup (pa_cons (pv 3) (pa_cons (pe_meth (pv 0) T.cl_Reader T.m_Reader_number (ok_Reader_number T) (hr.mono (by decide)) (b_Reader_number T) .nil (passes_call (takes_of rfl rfl rfl rfl) (fun _ _ _ _ h => h)) (pa_cons (pe_un un_neg (pv 2)) (pa_cons (pv 2) pa_nil))) pa_nil))))))), ?_⟩
  refine ⟨_, rfl, _, rfl, _, rfl, ?_⟩
  refine ⟨r, ws, n, wl, i, last, rfl, R, OutP.bind k (mPrice_rb last i) (But.refl r r H) fun t j hv ev x H1 hx R1 b1 => ?_⟩
  obtain ⟨dx, xs, h1, h2, h3⟩ := R1.ex
  refine ⟨_, rfl, _, _, _, rfl, h1, rfl, ?_⟩
  refine ⟨r, ws, n, wl, j, sFrom, by rw [zfrom]; rfl, R1, OutP.bind k ev b1 fun _ j2 hv2 ev2 y H2 hy R2 b2 => ?_⟩
  have hx3 := hx.mono (R1.tups b2)
  have b13 := But.trans b1 b2
  obtain ⟨dx, xs, h1, h2, h3⟩ := R2.ex
  refine ⟨_, rfl, _, rfl, _, _, _, rfl, h1, rfl, _, rfl, _, rfl, _, rfl, ?_⟩
  refine ⟨r, ws, n, wl, j2, rfl, R2, OutP.bind k ev2 b13 fun v j4 hv4 ev4 y H4 hy R4 b4 => ?_⟩
  have hx4 := hx3.mono (R2.tups b4)
  have b14 := But.trans b13 b4
  rw [hy.isInt]
  refine ⟨(by show 2 ≤ sizeLine; decide), fun p1 np1 => ?_⟩
  have t5 : Tups H4 (upd H4 p1 (.tup [x, .int v])) := Tups.new (Tups.refl H4) np1
  exact OutP.ok (i := 0) ev4 k _ _ (.tup upd_same (.cons (hx4.mono t5) (.cons (.int _) .nil))) (R4.new np1) (R4.bnew b14 np1)
theorem toks_cnt (t : List Nat) (i : Nat) (h : i ≤ t.length) : (toks t i).length + i ≤ t.length := by
  by_cases hi : i < t.length
  · rw [toks_step hi, List.length_append]
    have := toks_cnt t (tokEnd t i) (tokEnd_le hi)
    have := tokEnd_gt t i
    split
    · simp only [List.length_nil]; omega
    · simp only [List.length_cons, List.length_nil]; omega
  · rw [toks_end (Nat.not_lt.mp hi)]
    simp only [List.length_nil]; omega
termination_by t.length - i
decreasing_by have := tokEnd_gt t i; omega
theorem ok_Reader___init__ (T : Txt P K mg) : FnOk P w K mg base (L2.CX P w) 4 (He.fAd K ("Reader", some "__init__")) (fdO K ("Reader", some "__init__")) ["self", "text"] (spInit K) := by
  refine T.F_Reader___init__.ok sc_Reader___init__ (fun vs H Q E h => ?_) (fun cdv A outer s H vs Q E hr h => ?_)
  · obtain ⟨r, dx, x, rfl, _⟩ := h
    rfl
  obtain ⟨r, dx, x, rfl, h1, k⟩ := h
  refine ⟨_, (pss_cons (ps_if (pt_not (pt_val (pe_callB call_isi (by rfl) T.z_isinstance (by decide +kernel) (pa_cons (pv 1) (pa_cons (pe_bltn (v := .ty "str") (u := .type "str") (by rfl) T.z_str (by decide +kernel) rfl) pa_nil)))))
      (pss_one (ps_raiseBt rfl T.bt hr (takes_of rfl rfl rfl rfl) (pa_cons pe_int pa_nil)))
      pss_nil)
    (pss_cons (ps_fld (pv 0) (pe_callB call_len_str (by rfl) T.z_len (by decide +kernel) (pa_cons (pv 1) pa_nil)) rfl)
    (pss_cons (ps_fld (pv 0) (pe_call (ok_words_in T) (hr.mono (by decide)) rfl T.g_words_in T.F_words_in.kp (b_words_in T) .nil pass0 (pa_cons (pv 1) pa_nil)) rfl)
    (pss_one (ps_fld (pv 0) pe_int rfl))))), ?_⟩
  rcases k with ⟨t, rfl, ht, k⟩ | ⟨ty, hty, hk, k⟩
  · refine ⟨_, rfl, _, _, _, _, _, rfl, .ty _, .base (.str _), kit_ty (b := "str") (r := true) (by decide +kernel), _, rfl, ?_⟩
    refine iteF ?_
    have hl : (S t).length ≤ sizeLine := by rw [S_len]; omega
    refine ⟨_, rfl, _, rfl, hl, _, rfl, _, _, _, _, rfl, h1, T.cl_Reader, T.n_Reader_many, (by show 0 < 1000; decide), _, rfl, ?_⟩
    refine ⟨t, rfl, ht, fun p xs H1 s1 np hp hW => ?_⟩
    have npr : p ≠ r := fun z => by rw [z, upd_same] at np; cases np
    have np0 : H p = none := by rw [upd_ne npr] at np; exact np
    refine ⟨_, rfl, _, _, _, _, rfl, s1 _ _ upd_same, T.cl_Reader, T.n_Reader_words, (by show 1 < 1000; decide), _, rfl, _, _, _, _, rfl, upd_same, T.cl_Reader, T.n_Reader_at, (by show 2 < 1000; decide), ?_⟩
    rw [S_len]
    have b : But r r H (upd (upd H1 r (.ins (RC K) dx [(PySem.Str.ofString "many", .int (t.length : Int)), (PySem.Str.ofString "words", .ref p)])) r (.ins (RC K) dx (rFs p t.length 0))) := by
      refine But.one (But.one fun b o h1 h2 e => s1 b o ?_)
      rw [upd_ne h1]
      exact e
    refine k p _ ⟨⟨dx, xs, upd_same, by rw [upd_ne npr, upd_ne npr]; exact hp, hW.mono fun b ys e => ?_⟩, toks_big (by omega), by have := toks_cnt t 0 (Nat.zero_le _); omega⟩ b
    have hb : b ≠ r := fun z => by rw [z, s1 _ _ upd_same] at e; cases e
    rw [upd_ne hb, upd_ne hb]
    exact e
  · refine ⟨_, rfl, _, _, _, _, _, rfl, .ty _, hty, hk, _, rfl, ?_⟩
    refine iteT ?_
    exact ⟨_, rfl, fun d hd => k d _ upd_same (Same.new (Same.refl H) hd)⟩
end
end K77
namespace K77
open PySem PySem.Spec PyProof.Rows L2
open C8 (pss_cut)
/-- not a text -/
def NoStr (K : PySem.W.Frag) (H : Hp) (x : V) : Prop := ∃ ty, PySem.W.kitOne K ty (.type "str") = some false ∧ ∀ H', Same H H' → TyX K H' x ty
def OutE {α : Type} (K : PySem.W.Frag) (H : Hp) (E : XK) (Q : VK) (enc : α → Da) (m : Rd α) : Prop := match m with
  | .ok (v, _) => ∀ x H', DA H' x (enc v) → Same H H' → Q x H'
  | .error p => ∀ d H', H' d = some (xdP (.int ((p : Nat) : Int))) → Same H H' → E (.ref (BC K)) (some d) H'
def spRead (K : PySem.W.Frag) : Sp := fun vs H Q E => ∃ x, vs = [x] ∧
  ((∃ t : List Nat, x = .str (S t) ∧ t.length < sizeLine ∧ semis (toks t 0) < 300 ∧ OutE K H E Q dPb (mProbR (toks t 0) t.length)) ∨
   (NoStr K H x ∧ ∀ d H', H' d = some (xdP (.int 0)) → Same H H' → E (.ref (BC K)) (some d) H'))
section
variable {P : Program} {w : World} {K : PySem.W.Frag} {mg : Str → Option Value} {base : Heap}
theorem ok_read_problem (T : Txt P K mg) : FnOk P w K mg base (L2.CX P w) 9 (He.fAd K ("read_problem", none)) (fdO K ("read_problem", none)) ["text"] (spRead K) := by
  refine T.F_read_problem.ok sc_read_problem (fun vs H Q E h => ?_) (fun cdv A outer s H vs Q E hr h => ?_)
  · obtain ⟨x, rfl, _⟩ := h
    rfl
  obtain ⟨x, rfl, h⟩ := h
  refine ⟨_, (pss_cons (ps_set (i := 1) sc_read_problem.nd rfl (Or.inl rfl) (pe_make T.mk_Reader (ok_Reader___init__ T) (hr.mono (by decide)) (by rfl) T.g_Reader (b_Reader___init__ T) .nil (passes_call (takes_of rfl rfl rfl rfl) (fun _ _ _ _ h => h)) (pa_cons (pv 0) pa_nil)))
    (pss_cons (ps_expr (pe_meth (pv 1) T.cl_Reader T.m_Reader_mark (ok_Reader_mark T) (hr.mono (by decide)) (b_Reader_mark T) .nil (passes_call (takes_of rfl rfl rfl rfl) (fun _ _ _ _ h => h)) (pa_cons pe_str pa_nil)))
    (pss_cons (ps_par3 (i := 2) (j := 3) (l := 4) (by rfl) sc_read_problem.nd rfl rfl rfl (by decide) (by decide) (by decide) rfl rfl rfl (pa_cons (pe_call (ok_take_weight T) (hr.mono (by decide)) rfl T.g_take_weight T.F_take_weight.kp (b_take_weight T) .nil (passes_call (takes_of rfl rfl rfl rfl) (fun _ _ _ _ h => h)) (pa_cons (pv 1) (pa_cons (pe_glob (by rfl) T.c_MOST_VARIABLES.choose_spec (rel_int _ _)) pa_nil))) (pa_cons pe_non (pa_cons (pe_lst pa_nil) pa_nil))) (by rfl))
    (pss_cut (ps_if (pt_val (pe_meth (pv 1) T.cl_Reader T.m_Reader_goes_on (ok_Reader_goes_on T) (hr.mono (by decide)) (b_Reader_goes_on T) .nil pass0 (pa_cons pe_str pa_nil)))
      (pss_one (ps_set (i := 3) sc_read_problem.nd rfl (Or.inl rfl) (pe_call (ok_take_price T) hr rfl T.g_take_price T.F_take_price.kp (b_take_price T) .nil (passes_call (takes_of rfl rfl rfl rfl) (fun _ _ _ _ h => h)) (pa_cons (pv 1) (pa_cons (pe_op op_sub (pv 2) pe_int) (pa_cons (pe_glob (by rfl) T.c_MOST_NUMBER.choose_spec (rel_int _ _)) pa_nil))))))
      pss_nil)
    (pss_cons (ps_while (passes_of rfl) (PW.pt (pw_and (pt_cmpR op_lt (pe_callB call_len_seq (by rfl) T.z_len (by decide +kernel) (pa_cons (pv 4) pa_nil)) (pe_glob (by rfl) T.c_MOST_SUMS.choose_spec (rel_int _ _)) (nomark _)) (pw_and1 (pt_val (pe_meth (pv 1) T.cl_Reader T.m_Reader_goes_on (ok_Reader_goes_on T) (hr.mono (by decide)) (b_Reader_goes_on T) .nil pass0 (pa_cons pe_str pa_nil))))))
      (pss_one (ps_expr (pe_bm PySem.F.plainAttrs_list PySem.F.slot_list_append PySem.F.type_list_append mt_append (pv 4) (pa_cons (pe_call (ok_take_sum T) hr rfl T.g_take_sum T.F_take_sum.kp (b_take_sum T) .nil (passes_call (takes_of rfl rfl rfl rfl) (fun _ _ _ _ h => h)) (pa_cons (pv 1) (pa_cons (pe_op op_sub (pv 2) pe_int) (pa_cons (pe_glob (by rfl) T.c_MOST_NUMBER.choose_spec (rel_int _ _)) pa_nil)))) pa_nil)))))
    (pss_cons (ps_expr (pe_meth0 (pv 1) T.cl_Reader T.m_Reader_end (ok_Reader_end T) (hr.mono (by decide)) (b_Reader_end T) .nil (passes_call (takes_of rfl rfl rfl rfl) (fun _ _ _ _ h => h))))
    (pss_one (ps_ret (pe_tup (pa_cons (pv 2) (pa_cons (pe_callTy call_tuple_of (by rfl) T.z_tuple (by decide +kernel) (pa_cons (pv 4) pa_nil)) (pa_cons (pv 3) pa_nil)))))))))))), ?_⟩
  refine ⟨_, rfl, fun r dx nr ndx ner => ?_⟩
  have sm0 : Same H (upd (upd H dx (.own r)) r (.ins (RC K) dx [])) := fun b o e => by
    rw [upd_ne (ne_of_none e nr), upd_ne (ne_of_none e ndx)]
    exact e
  rcases h with ⟨t, rfl, ht, hsem, k0⟩ | ⟨⟨ty, hk, hty⟩, k0⟩
  case inr => exact ⟨r, dx, x, rfl, upd_same, .inr ⟨ty, hty _ sm0, hk, fun d H' hd s => k0 d H' hd (fun b o e => s b o (sm0 b o e))⟩⟩
  refine ⟨r, dx, _, rfl, upd_same, .inl ⟨t, rfl, ht, fun wl H1 R1 b1 => ⟨rfl, ?_⟩⟩⟩
  generalize hws : toks t 0 = ws at *
  generalize hn : t.length = n at *
  have sm1 : ∀ H', But r r H1 H' → Same H H' := fun H' b' b o e => b' b o (ne_of_none e nr) (ne_of_none e nr) (b1 b o (ne_of_none e nr) (ne_of_none e nr) (sm0 b o e))
  have k : OutP K ws n r wl H1 E Q dPb (mProbR ws n) := by
    cases hm : mProbR ws n with
    | ok q => rw [hm] at k0; exact fun x H' hx _ b' => k0 x H' hx (sm1 H' b')
    | error p => rw [hm] at k0; exact fun d H' hd b' => k0 d H' hd (sm1 H' b')
  have r1 : r ≠ r → False := fun z => z rfl
  obtain ⟨dx1, xs1, h1, h2, h3⟩ := R1.ex
  refine ⟨_, rfl, _, _, _, rfl, h1, rfl, ?_⟩
  refine ⟨r, ws, n, wl, 0, sProblem, by rw [zproblem]; rfl, R1, OutP.bind k (by unfold mProbR; rfl) (But.refl r r H1) fun _ j2 hv2 ev2 y H2 hy R2 b2 => ?_⟩
  refine ⟨_, rfl, ?_⟩
  refine ⟨r, ws, n, wl, j2, 60, rfl, R2, OutP.bind k ev2 b2 fun many j3 hv3 ev3 y H3 hy R3 b3 => ?_⟩
  rw [hy.isInt]
  have b13 := But.trans b2 b3
  refine ⟨(by show 0 ≤ sizeLine; decide), fun p1 np1 => ?_⟩
  have R4 := R3.new (o := .lst []) np1
  have b14 := R3.bnew (o := .lst []) b13 np1
  have hp1 := R3.ref np1
  have np10 : H1 p1 = none := But.free b13 hp1.1 hp1.1 np1
  refine ⟨_, _, _, rfl, ?_⟩
  refine ⟨fun σ' H' => ∃ (pr : Option (Tm × Int)) (i : Nat) (x : V), σ' = [some (.str (S t)), some (.ref r), some (.int many), some x, some (.ref p1)] ∧ RdAt (RC K) ws n r wl i H' ∧ But r r H1 H' ∧ H' p1 = some (.lst []) ∧ DA H' x (dPr pr) ∧
    mProbR ws n = mRestR ws n many pr i, ?_, ?_⟩
  · obtain ⟨dx, xs, h1, h2, h3⟩ := R4.ex
    refine ⟨_, rfl, _, _, _, rfl, h1, rfl, ?_⟩
    refine ⟨r, ws, n, wl, j3, sPrice, by rw [zprice]; rfl, R4, fun H5 b5 R5 => ?_⟩
    have hl5 := b5 _ _ hp1.1 hp1.1 upd_same
    have b15 := But.trans b14 b5
    refine ⟨_, rfl, ?_⟩
    by_cases hw : wAt ws j3 = sPrice
    · rw [if_pos hw] at R5 ev3
      refine iteT' (decide_eq_true hw) ?_
      refine ⟨_, rfl, _, rfl, _, _, rfl, rfl, ?_⟩
      refine ⟨r, ws, n, wl, j3 + 1, many - 1, rfl, R5, OutP.bind k ev3 b15 fun q j4 hv4 ev4 y H6 hy R6 b6 => ?_⟩
      exact ⟨some q, j4, y, rfl, R6, But.trans b15 b6, b6 _ _ hp1.1 hp1.1 hl5, hy, ev4⟩
    · rw [if_neg hw] at R5 ev3
      refine iteF' (decide_eq_false hw) ?_
      exact ⟨none, j3, .non, rfl, R5, b15, hl5, .non, ev3⟩
  · rintro σ' H' ⟨pr, i0, xp, rfl, R5, b5, hl5, hxp, hm5⟩
    refine ⟨fun m σ' H' => ∃ (acc : List (Tm × Int)) (i : Nat) (ys : List V), σ' = [some (.str (S t)), some (.ref r), some (.int many), some xp, some (.ref p1)] ∧ RdAt (RC K) ws n r wl i H' ∧ But r r H1 H' ∧ H' p1 = some (.lst ys) ∧ DAs H' ys (acc.map dSum) ∧ DA H' xp (dPr pr) ∧
      mProbR ws n = rb (mSums ws n m (many - 1) acc i) (fun sums j => if j < ws.length then .error (pAt ws n j) else .ok ((many, sums, pr), j)) ∧ ws.length ≤ i + m ∧ acc.length + semis (ws.drop i) < 300,
      ⟨ws.length, [], i0, [], rfl, R5, b5, hl5, .nil, hxp, hm5, by omega, by
        have := semis_drop (ws := ws) (Nat.zero_le i0)
        rw [List.drop_zero] at this
        show 0 + _ < 300
        omega⟩, ?_⟩
    rintro m σ' H' ⟨acc, i, ys, rfl, R6, b6, hl, hys, hxp, hm, hf, hs⟩
    have hyl := hys.length
    rw [List.length_map] at hyl
    refine ⟨_, rfl, _, _, rfl, .inl (SqL.of hl), _, _, rfl, rfl, _, rfl, ?_⟩
    refine iteT' (decide_eq_true (by show ((ys.length : Nat) : Int) < 300; omega)) ?_
    obtain ⟨dx, xs, h1, h2, h3⟩ := R6.ex
    refine ⟨_, rfl, _, _, _, rfl, h1, rfl, ?_⟩
    refine ⟨r, ws, n, wl, i, [59], by rw [zsemi]; rfl, R6, fun H7 b7 R7 => ?_⟩
    have t7 := R6.tups b7
    have hl7 := b7 _ _ hp1.1 hp1.1 hl
    have hys7 := hys.mono t7
    have hxp7 := hxp.mono t7
    have b17 := But.trans b6 b7
    refine ⟨_, rfl, ?_⟩
    by_cases hw : wAt ws i = [59]
    · rw [if_pos hw] at R7
      have hi := wAt_in hw
      refine iteT' (decide_eq_true hw) ?_
      refine ⟨_, fun _ _ q => q, ?_⟩
      cases m with
      | zero => omega
      | succ m =>
        rw [mSums_rb, if_pos hw, rb_rb] at hm
        refine ⟨_, rfl, .inl ⟨rfl, _, SqL.of hl7⟩, _, rfl, _, rfl, _, _, rfl, rfl, ?_⟩
        refine ⟨r, ws, n, wl, i + 1, many - 1, rfl, R7, OutP.bind k hm b17 fun q j hv ev x H8 hx R8 b8 => ?_⟩
        have t8 := R7.tups b8
        have hl8 := b8 _ _ hp1.1 hp1.1 hl7
        refine ⟨_, _, _, rfl, rfl, hl8, (by have := small1000 (n := ys.length + 1) (by omega); omega), ?_⟩
        have t9 : Tups H8 (upd H8 p1 (.lst (ys ++ [x]))) := Tups.set hl8
        have hj := mSum_le hv
        have hsd := semis_drop (ws := ws) (Nat.le_of_lt hj)
        have hsa := semis_at hw
        refine ⟨m, Nat.lt_succ_self m, acc ++ [q], j, ys ++ [x], rfl, R8.set hl8 hp1.2, But.new (But.trans b17 b8) np10, upd_same, ?_, (hxp7.mono t8).mono t9, ev, by omega, by rw [List.length_append]; show acc.length + 1 + _ < 300; omega⟩
        rw [List.map_append]
        exact DAs.snoc ((hys7.mono t8).mono t9) (hx.mono t9)
    · rw [if_neg hw] at R7
      refine iteF' (decide_eq_false hw) ?_
      have hm' : mProbR ws n = if i < ws.length then .error (pAt ws n i) else .ok ((many, acc, pr), i) := by
        rw [hm]
        cases m with
        | zero => rw [mSums]; rfl
        | succ m => rw [mSums_rb, if_neg hw]; rfl
      obtain ⟨dx, xs, h1, h2, h3⟩ := R7.ex
      refine ⟨_, rfl, _, _, _, rfl, h1, rfl, ?_⟩
      refine ⟨r, ws, n, wl, i, rfl, R7, ?_⟩
      by_cases hi : i < ws.length
      · rw [if_pos hi] at hm'
        rw [if_pos hi]
        exact OutP.errS (i := 0) hm' k b17
      · rw [if_neg hi] at hm'
        rw [if_neg hi]
        refine ⟨_, rfl, _, rfl, _, _, rfl, .inl ⟨SqL.of hl7, fun p5 np5 => ?_⟩⟩
        refine ⟨_, rfl, (by show 3 ≤ sizeLine; decide), fun p6 np6 => ?_⟩
        have t8 : Tups H7 (upd (upd H7 p5 (.tup ys)) p6 (.tup [.int many, .ref p5, xp])) := Tups.new (Tups.new (Tups.refl H7) np5) np6
        have R8 := R7.new (o := .tup ys) np5
        have b8 := R7.bnew (o := .tup ys) b17 np5
        have p56 : p5 ≠ p6 := ne_of_none upd_same np6
        refine OutP.ok (i := 0) hm' k _ _ (.tup upd_same (.cons (.int _) (.cons (.tup (by rw [upd_ne p56]; exact upd_same) (hys7.mono t8)) (.cons (hxp7.mono t8) .nil)))) (R8.new np6) (R8.bnew b8 np6)
end
end K77
namespace K77
open PySem PySem.Spec PyProof.Rows L2
open C8 (pss_cut)
/-! the law's own reader -/
inductive LS where
  | go (i : Nat) | st (p : Nat)
structure LRi (ws : List (Wd × Nat)) (n : Nat) (r wl : Addr) (i : Nat) (wr : Int) (H : Hp) : Prop where
  at_ : H r = some (.lst [.ref wl, .int (i : Int), .int wr, .int (n : Int)])
  ne : wl ≠ r
  ex : ∃ xs, H wl = some (.lst xs) ∧ WordsL H xs ws
  big : ∀ i, (wAt ws i).length ≤ sizeLine
  cnt : ws.length < sizeLine
def LR (ws : List (Wd × Nat)) (n : Nat) (r wl : Addr) (s : LS) (H : Hp) : Prop := match s with
  | .go i => LRi ws n r wl i (-1) H
  | .st p => ∃ i, LRi ws n r wl i (p : Int) H
def wrOf : LS → Int
  | .go _ => -1
  | .st p => p
section
variable {ws : List (Wd × Nat)} {n i : Nat} {r wl p : Addr} {wr : Int} {H H' : Hp} {o : HO} {s : LS}
theorem LR.any (h : LR ws n r wl s H) : ∃ i, LRi ws n r wl i (wrOf s) H ∧ (∀ j, s = .go j → i = j) := by
  cases s with
  | go i => exact ⟨i, h, fun j e => by cases e; rfl⟩
  | st p => obtain ⟨i, h⟩ := h; exact ⟨i, h, fun j e => by cases e⟩
theorem LR.of (h : LRi ws n r wl i (wrOf s) H) (e : ∀ j, s = .go j → i = j) : LR ws n r wl s H := by
  cases s with
  | go j => rw [e j rfl] at h; exact h
  | st p => exact ⟨i, h⟩
theorem LRi.tups (R : LRi ws n r wl i wr H) (b : But r r H H') : Tups H H' := But.tups b (fun ys e => by rw [R.at_] at e; cases e) (fun ys e => by rw [R.at_] at e; cases e)
theorem LR.tups (R : LR ws n r wl s H) (b : But r r H H') : Tups H H' := by
  obtain ⟨i, R, _⟩ := R.any
  exact R.tups b
theorem LRi.same (R : LRi ws n r wl i wr H) (s : Same H H') : LRi ws n r wl i wr H' := by
  obtain ⟨xs, h2, h3⟩ := R.ex
  exact ⟨s _ _ R.at_, R.ne, ⟨xs, s _ _ h2, h3.mono (Same.tups s)⟩, R.big, R.cnt⟩
theorem LR.same (R : LR ws n r wl s H) (sm : Same H H') : LR ws n r wl s H' := by
  obtain ⟨i, R, e⟩ := R.any
  exact LR.of (R.same sm) e
theorem LR.new (R : LR ws n r wl s H) (np : H p = none) : LR ws n r wl s (upd H p o) := R.same (Same.new (Same.refl H) np)
theorem LR.ref (R : LR ws n r wl s H) (np : H p = none) : p ≠ r ∧ p ≠ wl := by
  obtain ⟨i, R, e⟩ := R.any
  obtain ⟨xs, h2, h3⟩ := R.ex
  exact ⟨(ne_of_none R.at_ np).symm, (ne_of_none h2 np).symm⟩
theorem LR.bnew {H0 : Hp} (R : LR ws n r wl s H) (b : But r r H0 H) (np : H p = none) : But r r H0 (upd H p o) := But.new b (But.free b (R.ref np).1 (R.ref np).1 np)
theorem LR.set {ys : List V} (R : LR ws n r wl s H) (h : H p = some (.lst ys)) (hr : p ≠ r) (hw : p ≠ wl) : LR ws n r wl s (upd H p o) := by
  obtain ⟨i, R, e⟩ := R.any
  obtain ⟨xs, h2, h3⟩ := R.ex
  exact LR.of ⟨by rw [upd_ne hr.symm]; exact R.at_, R.ne, ⟨xs, by rw [upd_ne hw.symm]; exact h2, h3.mono (Tups.set h)⟩, R.big, R.cnt⟩ e
theorem LRi.put {j : Nat} {wr' : Int} (R : LRi ws n r wl i wr H) : LRi ws n r wl j wr' (upd H r (.lst [.ref wl, .int (j : Int), .int wr', .int (n : Int)])) := by
  obtain ⟨xs, h2, h3⟩ := R.ex
  exact ⟨upd_same, R.ne, ⟨xs, by rw [upd_ne R.ne]; exact h2, h3.mono (Tups.set R.at_)⟩, R.big, R.cnt⟩
end
def rs {α : Type} (m : Rd α) : Option α × LS := match m with
  | .ok (v, j) => (some v, .go j)
  | .error p => (none, .st p)
def mS {α : Type} (m : Nat → Rd α) : LS → Option α × LS
  | .go i => rs (m i)
  | .st p => (none, .st p)
theorem mSg {α : Type} {m : Nat → Rd α} {i : Nat} : mS m (.go i) = rs (m i) := rfl
def nowOf (ws : List (Wd × Nat)) : LS → Wd
  | .go i => wAt ws i
  | .st _ => []
def stopS (ws : List (Wd × Nat)) (n : Nat) : LS → LS
  | .go i => .st (pAt ws n i)
  | .st p => .st p
def onB (ws : List (Wd × Nat)) (sg : Wd) : LS → Bool
  | .go i => decide (wAt ws i = sg)
  | .st _ => false
def onS (ws : List (Wd × Nat)) (sg : Wd) : LS → LS
  | .go i => if wAt ws i = sg then .go (i + 1) else .go i
  | .st p => .st p
theorem onB_go {ws : List (Wd × Nat)} {sg : Wd} {i : Nat} : onB ws sg (.go i) = decide (wAt ws i = sg) := rfl
theorem onS_go {ws : List (Wd × Nat)} {sg : Wd} {i : Nat} : onS ws sg (.go i) = if wAt ws i = sg then .go (i + 1) else .go i := rfl
theorem mS_ok {α : Type} {m : Nat → Rd α} {i j : Nat} {v : α} (h : m i = .ok (v, j)) : mS m (.go i) = (some v, .go j) := by rw [mSg, h]; rfl
theorem mS_err {α : Type} {m : Nat → Rd α} {i p : Nat} (h : m i = .error p) : mS m (.go i) = (none, .st p) := by rw [mSg, h]; rfl
theorem mS_st {α : Type} {m : Nat → Rd α} {p : Nat} : mS m (.st p) = (none, .st p) := rfl
/-- what comes next, whatever the first part gave -/
theorem mS_bind {α β : Type} {m : Nat → Rd β} {f : β → Nat → Rd α} {s : LS} (z : β) (h : ∀ v, (mS m s).1 = some v → v = z) : mS (fun i => rb (m i) f) s = mS (f z) (mS m s).2 := by
  cases s with
  | st p => rfl
  | go i =>
    cases hm : m i with
    | ok q =>
      obtain ⟨v, j⟩ := q
      rw [mS_ok hm] at h ⊢
      rw [← h v rfl, mSg, hm]
      rfl
    | error p =>
      rw [mS_err hm, mSg, hm]
      rfl
theorem mS_go {α : Type} {m : Nat → Rd α} {s : LS} {j : Nat} (h : (mS m s).2 = .go j) : ∃ i v, s = .go i ∧ m i = .ok (v, j) ∧ (mS m s).1 = some v := by
  cases s with
  | st p => cases h
  | go i =>
    cases hm : m i with
    | ok q =>
      obtain ⟨v, j'⟩ := q
      rw [mS_ok hm] at h
      cases h
      exact ⟨i, v, rfl, hm, by rw [mS_ok hm]⟩
    | error p =>
      rw [mS_err hm] at h
      cases h
def OutI (ws : List (Wd × Nat)) (n : Nat) (r wl : Addr) (H : Hp) (Q : VK) (m : Nat → Rd Int) (s : LS) : Prop := ∀ (z : Int) H', (∀ v, (mS m s).1 = some v → v = z) → LR ws n r wl (mS m s).2 H' → But r r H H' → Q (.int z) H'
def OutD {α : Type} (ws : List (Wd × Nat)) (n : Nat) (r wl : Addr) (H : Hp) (Q : VK) (enc : α → Da) (m : Nat → Rd α) (s : LS) : Prop := ∀ x H', (∀ v, (mS m s).1 = some v → DA H' x (enc v)) → LR ws n r wl (mS m s).2 H' → But r r H H' → Q x H'
def spNow : Sp := fun vs H Q _ => ∃ (r : Addr) (ws : List (Wd × Nat)) (n : Nat) (wl : Addr) (s : LS), vs = [.ref r] ∧ LR ws n r wl s H ∧ Q (.str (S (nowOf ws s))) H
def spLStop : Sp := fun vs H Q _ => ∃ (r : Addr) (ws : List (Wd × Nat)) (n : Nat) (wl : Addr) (s : LS), vs = [.ref r] ∧ LR ws n r wl s H ∧ ∀ H', LR ws n r wl (stopS ws n s) H' → But r r H H' → Q (.bl false) H'
def spOn : Sp := fun vs H Q _ => ∃ (r : Addr) (ws : List (Wd × Nat)) (n : Nat) (wl : Addr) (s : LS) (sg : Wd), vs = [.ref r, .str (S sg)] ∧ sg ≠ [] ∧ LR ws n r wl s H ∧ ∀ H', LR ws n r wl (onS ws sg s) H' → But r r H H' → Q (.bl (onB ws sg s)) H'
def spNeed : Sp := fun vs H Q _ => ∃ (r : Addr) (ws : List (Wd × Nat)) (n : Nat) (wl : Addr) (s : LS) (sg : Wd), vs = [.ref r, .str (S sg)] ∧ sg ≠ [] ∧ LR ws n r wl s H ∧ ∀ x H', LR ws n r wl (mS (mMark ws n sg) s).2 H' → But r r H H' → Q x H'
def spLNum : Sp := fun vs H Q _ => ∃ (r : Addr) (ws : List (Wd × Nat)) (n : Nat) (wl : Addr) (s : LS) (lo hi : Int), vs = [.ref r, .int lo, .int hi] ∧ LR ws n r wl s H ∧ OutI ws n r wl H Q (mNum ws n lo hi) s
def spLNumber : Sp := fun vs H Q _ => ∃ (r : Addr) (ws : List (Wd × Nat)) (n : Nat) (wl : Addr) (s : LS), vs = [.ref r] ∧ LR ws n r wl s H ∧ OutI ws n r wl H Q (mNumber ws n) s
def spLLit : Sp := fun vs H Q _ => ∃ (r : Addr) (ws : List (Wd × Nat)) (n : Nat) (wl : Addr) (s : LS) (lo hi : Int), vs = [.ref r, .int lo, .int hi] ∧ LR ws n r wl s H ∧ OutI ws n r wl H Q (mLit ws n lo hi) s
theorem S_empty : PySem.Str.ofString "" = S [] := ze
section
variable {P : Program} {w : World} {K : PySem.W.Frag} {mg : Str → Option Value} {base : Heap}
theorem ok_l_now (T : Txt P K mg) : FnOk P w K mg base CX0 1 (He.fAd K ("_law_now", none)) (fdO K ("_law_now", none)) ["reader"] spNow := by
  refine T.F_l_now.ok sc_l_now (fun vs H Q E h => ?_) (fun cdv A outer s H vs Q E hr h => ?_)
  · obtain ⟨r, ws, n, wl, s, rfl, _⟩ := h
    rfl
  obtain ⟨r, ws, n, wl, ss, rfl, R, k⟩ := h
  obtain ⟨i, R, e⟩ := R.any
  obtain ⟨xs, h2, h3⟩ := R.ex
  have h1 := R.at_
  refine ⟨_, PSs.nox (pss_cons (ps_set (i := 1) sc_l_now.nd rfl (Or.inl rfl) (pe_ix ix_list (pv 0) pe_int (fun _ _ => rfl)))
    (pss_one (ps_ret (pe_ifExp (PW.pt (pw_and (pt_cmpR op_lt (pe_ix ix_list (pv 0) pe_int (fun _ _ => rfl)) (pe_callB call_len_seq (by rfl) T.z_len (by decide +kernel) (pa_cons (pv 1) pa_nil)) (nomark _)) (pw_and1 (pt_cmpR op_lt (pe_ix ix_list (pv 0) pe_int (fun _ _ => rfl)) pe_int (nomark _))))) (pe_ix ix_tup (pe_ix ix_list (pv 1) (pe_ix ix_list (pv 0) pe_int (fun _ _ => rfl)) (fun _ _ => rfl)) pe_int (fun _ _ => rfl)) pe_str)))), ?_⟩
  refine ⟨_, rfl, _, _, _, _, rfl, rfl, SqL.of h1, atI_nat (j := 0) rfl, _, rfl, _, _, _, _, rfl, rfl, SqL.of h1, atI_nat (j := 1) rfl, _, rfl, _, _, rfl, .inl (SqL.of h2), _, _, rfl, rfl, _, rfl, ?_⟩
  refine ite2 (fun hh => ?_) (fun hh => ?_)
  · have hi : i < ws.length := by have := of_decide_eq_true hh; rw [h3.1] at this; omega
    obtain ⟨a, ha, hta⟩ := h3.at hi n
    refine ⟨_, rfl, _, _, _, _, rfl, rfl, SqL.of h1, atI_nat (j := 2) rfl, _, _, rfl, rfl, _, rfl, ?_⟩
    cases ss with
    | go j =>
      have := e j rfl
      subst this
      refine iteT' (by show decide ((-1 : Int) < 0) = true; decide) ?_
      refine ⟨_, rfl, _, rfl, _, _, _, _, rfl, rfl, SqL.of h1, atI_nat (j := 1) rfl, _, _, _, _, rfl, rfl, SqL.of h2, ha, _, _, _, _, rfl, rfl, SqT.of hta, atI_nat (j := 0) rfl, ?_⟩
      exact k
    | st p =>
      refine iteF' (decide_eq_false (by show ¬ (p : Int) < 0; omega)) ?_
      have k : Q (.str (S [])) H := k
      rw [← S_empty] at k
      exact k
  · have hi : ¬ i < ws.length := fun z => ndec hh (by rw [h3.1]; omega)
    refine iteF ?_
    have : nowOf ws ss = [] := by
      cases ss with
      | go j => rw [← e j rfl]; exact wAt_out hi
      | st p => rfl
    rw [this, ← S_empty] at k
    exact k
theorem ok_l_stop (T : Txt P K mg) : FnOk P w K mg base CX0 1 (He.fAd K ("_law_stop", none)) (fdO K ("_law_stop", none)) ["reader"] spLStop := by
  refine T.F_l_stop.ok sc_l_stop (fun vs H Q E h => ?_) (fun cdv A outer s H vs Q E hr h => ?_)
  · obtain ⟨r, ws, n, wl, s, rfl, _⟩ := h
    rfl
  obtain ⟨r, ws, n, wl, ss, rfl, R0, k⟩ := h
  obtain ⟨i, R, e⟩ := R0.any
  obtain ⟨xs, h2, h3⟩ := R.ex
  have h1 := R.at_
  refine ⟨_, PSs.nox (pss_cons (ps_set (i := 1) sc_l_stop.nd rfl (Or.inl rfl) (pe_ix ix_list (pv 0) pe_int (fun _ _ => rfl)))
    (pss_cut (ps_if (pt_cmpR op_lt (pe_ix ix_list (pv 0) pe_int (fun _ _ => rfl)) pe_int (nomark _))
      (pss_one (ps_asg (pe_ifExp (pt_cmpR op_lt (pe_ix ix_list (pv 0) pe_int (fun _ _ => rfl)) (pe_callB call_len_seq (by rfl) T.z_len (by decide +kernel) (pa_cons (pv 1) pa_nil)) (nomark _)) (pe_ix ix_tup (pe_ix ix_list (pv 1) (pe_ix ix_list (pv 0) pe_int (fun _ _ => rfl)) (fun _ _ => rfl)) pe_int (fun _ _ => rfl)) (pe_ix ix_list (pv 0) pe_int (fun _ _ => rfl))) (pg_sub (pv 0) pe_int set_list)))
      pss_nil)
    (pss_one (ps_ret pe_bl)))), ?_⟩
  refine ⟨_, rfl, _, _, _, _, rfl, rfl, SqL.of h1, atI_nat (j := 0) rfl, ?_⟩
  refine ⟨fun σ' H' => LR ws n r wl (stopS ws n ss) H' ∧ But r r H H', ?_, ?_⟩
  · refine ⟨_, rfl, _, _, _, _, rfl, rfl, SqL.of h1, atI_nat (j := 2) rfl, _, _, rfl, rfl, _, rfl, ?_⟩
    cases ss with
    | st p =>
      refine iteF' (decide_eq_false (by show ¬ (p : Int) < 0; omega)) ?_
      exact ⟨R0, But.refl r r H⟩
    | go j =>
      have := e j rfl
      subst this
      refine iteT' (by show decide ((-1 : Int) < 0) = true; decide) ?_
      refine ⟨_, rfl, _, _, _, _, rfl, rfl, SqL.of h1, atI_nat (j := 1) rfl, _, rfl, _, _, rfl, .inl (SqL.of h2), _, _, rfl, rfl, _, rfl, ?_⟩
      refine ite2 (fun hh => ?_) (fun hh => ?_)
      · have hi : i < ws.length := by have := of_decide_eq_true hh; rw [h3.1] at this; omega
        obtain ⟨a, ha, hta⟩ := h3.at hi n
        refine ⟨_, rfl, _, rfl, _, _, _, _, rfl, rfl, SqL.of h1, atI_nat (j := 1) rfl, _, _, _, _, rfl, rfl, SqL.of h2, ha, _, _, _, _, rfl, rfl, SqT.of hta, atI_nat (j := 1) rfl, _, rfl, _, _, _, _, rfl, rfl, h1, rfl, ?_⟩
        exact ⟨⟨i, R.put⟩, But.one (But.refl r r H)⟩
      · have hi : ¬ i < ws.length := fun z => ndec hh (by rw [h3.1]; omega)
        refine ⟨_, rfl, _, _, _, _, rfl, rfl, SqL.of h1, atI_nat (j := 3) rfl, _, rfl, _, _, _, _, rfl, rfl, h1, rfl, ?_⟩
        refine ⟨?_, But.one (But.refl r r H)⟩
        show LR ws n r wl (.st (pAt ws n i)) _
        rw [pAt_out hi]
        exact ⟨i, R.put⟩
  · rintro σ' H' ⟨R', b'⟩
    exact k _ R' b'
theorem ok_l_on (T : Txt P K mg) : FnOk P w K mg base CX0 2 (He.fAd K ("_law_on", none)) (fdO K ("_law_on", none)) ["reader", "sign"] spOn := by
  refine T.F_l_on.ok sc_l_on (fun vs H Q E h => ?_) (fun cdv A outer s H vs Q E hr h => ?_)
  · obtain ⟨r, ws, n, wl, s, sg, rfl, _⟩ := h
    rfl
  obtain ⟨r, ws, n, wl, ss, sg, rfl, hsg, R0, k⟩ := h
  obtain ⟨i, R, e⟩ := R0.any
  have h1 := R.at_
  refine ⟨_, PSs.nox (pss_cons (ps_if (pt_cmpR op_ne (pe_call (ok_l_now T) hr rfl T.g__law_now T.F_l_now.kp (b_l_now T) .nil pass0 (pa_cons (pv 0) pa_nil)) (pv 1) (nomark _))
      (pss_one (ps_ret pe_bl))
      pss_nil)
    (pss_cons (ps_asg (pe_op op_add (pe_ix ix_list (pv 0) pe_int (fun _ _ => rfl)) pe_int) (pg_sub (pv 0) pe_int set_list))
    (pss_one (ps_ret pe_bl)))), ?_⟩
  refine ⟨_, rfl, ?_⟩
  refine ⟨r, ws, n, wl, ss, rfl, R0, ?_⟩
  refine ⟨_, rfl, rfl, _, rfl, ?_⟩
  cases ss with
  | st p =>
    refine iteT' (by show (!decide (V.str (S []) = V.str (S sg))) = true; rw [decide_eq_false (fun z => hsg ((strIs (w := []) rfl).mp z).symm)]; rfl) ?_
    exact k _ R0 (But.refl r r H)
  | go j =>
    have := e j rfl
    subst this
    by_cases hw : wAt ws i = sg
    · refine iteF' (by show (!decide (V.str (S (wAt ws i)) = V.str (S sg))) = false; rw [decide_eq_true ((strIs rfl).mpr hw)]; rfl) ?_
      refine ⟨_, rfl, _, _, _, _, rfl, rfl, SqL.of h1, atI_nat (j := 1) rfl, _, _, rfl, rfl, _, rfl, _, _, _, _, rfl, rfl, h1, rfl, ?_⟩
      have k := k (upd H r (.lst [.ref wl, .int ((i + 1 : Nat) : Int), .int (-1), .int (n : Int)])) (by rw [onS_go, if_pos hw]; exact R.put) (But.one (But.refl r r H))
      rw [onB_go, decide_eq_true hw] at k
      exact k
    · refine iteT' (by show (!decide (V.str (S (wAt ws i)) = V.str (S sg))) = true; rw [decide_eq_false (fun z => hw ((strIs rfl).mp z))]; rfl) ?_
      have k := k H (by rw [onS_go, if_neg hw]; exact R0) (But.refl r r H)
      rw [onB_go, decide_eq_false hw] at k
      exact k
theorem ok_l_need (T : Txt P K mg) : FnOk P w K mg base CX0 3 (He.fAd K ("_law_need", none)) (fdO K ("_law_need", none)) ["reader", "sign"] spNeed := by
  refine T.F_l_need.ok sc_l_need (fun vs H Q E h => ?_) (fun cdv A outer s H vs Q E hr h => ?_)
  · obtain ⟨r, ws, n, wl, s, sg, rfl, _⟩ := h
    rfl
  obtain ⟨r, ws, n, wl, ss, sg, rfl, hsg, R0, k⟩ := h
  refine ⟨_, PSs.nox (pss_one (ps_ret (pe_or (pe_call (ok_l_on T) hr rfl T.g__law_on T.F_l_on.kp (b_l_on T) .nil pass0 (pa_cons (pv 0) (pa_cons (pv 1) pa_nil))) (pe_one (pe_call (ok_l_stop T) (hr.mono (by decide)) rfl T.g__law_stop T.F_l_stop.kp (b_l_stop T) .nil pass0 (pa_cons (pv 0) pa_nil)))))), ?_⟩
  refine ⟨_, rfl, _, rfl, ?_⟩
  refine ⟨r, ws, n, wl, ss, sg, rfl, hsg, R0, fun H1 R1 b1 => ?_⟩
  refine ⟨_, rfl, ?_⟩
  cases ss with
  | st p =>
    refine iteF' rfl ?_
    refine ⟨_, rfl, ?_⟩
    exact ⟨r, ws, n, wl, .st p, rfl, R1, fun H2 R2 b2 => k _ H2 R2 (But.trans b1 b2)⟩
  | go i =>
    by_cases hw : wAt ws i = sg
    · have e1 : onS ws sg (.go i) = .go (i + 1) := by rw [onS_go, if_pos hw]
      have e2 : mS (mMark ws n sg) (.go i) = (some (), .go (i + 1)) := mS_ok (by unfold mMark; rw [if_pos hw])
      rw [e1] at R1
      rw [e2] at k
      refine iteT' (decide_eq_true hw) ?_
      exact k _ H1 R1 b1
    · have e1 : onS ws sg (.go i) = .go i := by rw [onS_go, if_neg hw]
      have e2 : mS (mMark ws n sg) (.go i) = (none, .st (pAt ws n i)) := mS_err (by unfold mMark; rw [if_neg hw])
      rw [e1] at R1
      rw [e2] at k
      refine iteF' (decide_eq_false hw) ?_
      refine ⟨_, rfl, ?_⟩
      exact ⟨r, ws, n, wl, .go i, rfl, R1, fun H2 R2 b2 => k _ H2 R2 (But.trans b1 b2)⟩
end
end K77
namespace K77
open PySem PySem.Spec PyProof.Rows L2
open C8 (pss_cut)
theorem nowOf_len {ws : List (Wd × Nat)} {n : Nat} {r wl : Addr} {s : LS} {H : Hp} (R : LR ws n r wl s H) : (nowOf ws s).length ≤ sizeLine := by
  obtain ⟨i, R', e⟩ := R.any
  cases s with
  | go j => exact R'.big j
  | st p => exact Nat.zero_le _
theorem mS_numNo {ws : List (Wd × Nat)} {n : Nat} {s : LS} {lo hi : Int} (h : ¬ (isNum (nowOf ws s) = true ∧ lo ≤ val (nowOf ws s) ∧ val (nowOf ws s) ≤ hi)) : mS (mNum ws n lo hi) s = (none, stopS ws n s) := by
  cases s with
  | go i => exact mS_err (mNum_no h)
  | st p => rfl
theorem isNum_nil : isNum [] = false := isNum_no1 (by decide)
theorem OutI.stop {ws : List (Wd × Nat)} {n : Nat} {r wl : Addr} {H H1 H2 : Hp} {Q : VK} {m : Nat → Rd Int} {s s1 : LS} (k : OutI ws n r wl H Q m s) (e : mS m s = (none, s1)) (b : But r r H H1) (R : LR ws n r wl s1 H2) (b2 : But r r H1 H2) (z : Int) : Q (.int z) H2 :=
  k z H2 (fun v hv => by rw [e] at hv; cases hv) (by rw [e]; exact R) (But.trans b b2)
section
variable {P : Program} {w : World} {K : PySem.W.Frag} {mg : Str → Option Value} {base : Heap}
theorem ok_l_numeral (T : Txt P K mg) : FnOk P w K mg base CX0 2 (He.fAd K ("_law_numeral", none)) (fdO K ("_law_numeral", none)) ["reader", "least", "most"] spLNum := by
  refine T.F_l_numeral.ok sc_l_numeral (fun vs H Q E h => ?_) (fun cdv A outer s H vs Q E hr h => ?_)
  · obtain ⟨r, ws, n, wl, s, lo, hi, rfl, _⟩ := h
    rfl
  obtain ⟨r, ws, n, wl, ss, lo, hi, rfl, R0, k⟩ := h
  refine ⟨_, PSs.nox (pss_cons (ps_set (i := 3) sc_l_numeral.nd rfl (Or.inl rfl) (pe_call (ok_l_now T) hr rfl T.g__law_now T.F_l_now.kp (b_l_now T) .nil pass0 (pa_cons (pv 0) pa_nil)))
    (pss_cons (ps_if (PW.pt (pw_or (pt_not (pt_val (pe_call (ok_l_is_numeral T) hr rfl T.g__law_is_numeral T.F_l_is_numeral.kp (b_l_is_numeral T) .nil pass0 (pa_cons (pv 3) pa_nil)))) (pw_or1 (pt_not (pt_chain op_le op_le (pv 1) (pe_callTy call_int_str (by rfl) T.z_int (by decide +kernel) (pa_cons (pv 3) pa_nil)) (pv 2))))))
      (pss_one (ps_ret (pe_callTy call_int1 (by rfl) T.z_int (by decide +kernel) (pa_cons (pe_call (ok_l_stop T) hr rfl T.g__law_stop T.F_l_stop.kp (b_l_stop T) .nil pass0 (pa_cons (pv 0) pa_nil)) pa_nil))))
      pss_nil)
    (pss_cons (ps_asg (pe_op op_add (pe_ix ix_list (pv 0) pe_int (fun _ _ => rfl)) pe_int) (pg_sub (pv 0) pe_int set_list))
    (pss_one (ps_ret (pe_callTy call_int_str (by rfl) T.z_int (by decide +kernel) (pa_cons (pv 3) pa_nil))))))), ?_⟩
  refine ⟨_, rfl, ?_⟩
  refine ⟨r, ws, n, wl, ss, rfl, R0, ?_⟩
  refine ⟨_, rfl, ?_⟩
  refine ⟨_, rfl, nowOf_len R0, fun H1 s1 => ?_⟩
  have R1 := R0.same s1
  refine ⟨_, rfl, ?_⟩
  cases hn : isNum (nowOf ws ss) with
  | false =>
    refine iteT' rfl ?_
    refine iteT ?_
    refine ⟨_, rfl, ?_⟩
    refine ⟨r, ws, n, wl, ss, rfl, R1, fun H2 R2 b2 => ?_⟩
    refine .inr ⟨_, rfl, ?_⟩
    exact OutI.stop k (mS_numNo fun z => by rw [hn] at z; exact absurd z.1 (by decide)) (Same.but s1) R2 b2 0
  | true =>
    refine iteF' rfl ?_
    obtain ⟨e1, e2⟩ := int_S hn
    refine ⟨_, rfl, _, rfl, _, _, rfl, e1, e2, _, _, rfl, rfl, _, rfl, ?_⟩
    refine ite2 (fun h2 => ?_) (fun h2 => ?_)
    · refine ⟨_, rfl, _, _, rfl, rfl, _, rfl, ?_⟩
      refine ite2 (fun hh => ?_) (fun hh => ?_)
      · have hgt : ¬ val (nowOf ws ss) ≤ hi := by
          cases q : decide (val (nowOf ws ss) ≤ hi) with
          | true => rw [q] at hh; cases hh
          | false => exact of_decide_eq_false q
        refine ⟨_, rfl, ?_⟩
        refine ⟨r, ws, n, wl, ss, rfl, R1, fun H2 R2 b2 => ?_⟩
        refine .inr ⟨_, rfl, ?_⟩
        exact OutI.stop k (mS_numNo fun z => hgt z.2.2) (Same.but s1) R2 b2 0
      · have hle : val (nowOf ws ss) ≤ hi := by
          cases q : decide (val (nowOf ws ss) ≤ hi) with
          | true => exact of_decide_eq_true q
          | false => rw [q] at hh; exact absurd rfl hh
        cases ss with
        | st p => exact absurd (show isNum [] = true from hn) (by rw [isNum_nil]; decide)
        | go i =>
          have R1 : LRi ws n r wl i (-1) H1 := R1
          have h1 := R1.at_
          refine ⟨_, rfl, _, _, _, _, rfl, rfl, SqL.of h1, atI_nat (j := 1) rfl, _, _, rfl, rfl, _, rfl, _, _, _, _, rfl, rfl, h1, rfl, _, rfl, _, _, rfl, e1, e2, ?_⟩
          have hy : mS (mNum ws n lo hi) (.go i) = (some (val (wAt ws i)), .go (i + 1)) := mS_ok (mNum_yes ⟨hn, of_decide_eq_true h2, hle⟩)
          refine k _ _ (fun v hv => by rw [hy] at hv; cases hv; rfl) ?_ (But.one (Same.but s1))
          rw [hy]
          exact R1.put
    · refine ⟨_, rfl, ?_⟩
      refine iteT ?_
      refine ⟨_, rfl, ?_⟩
      refine ⟨r, ws, n, wl, ss, rfl, R1, fun H2 R2 b2 => ?_⟩
      refine .inr ⟨_, rfl, ?_⟩
      exact OutI.stop k (mS_numNo fun z => ndec h2 z.2.1) (Same.but s1) R2 b2 0
theorem ok_l_number (T : Txt P K mg) : FnOk P w K mg base CX0 3 (He.fAd K ("_law_number", none)) (fdO K ("_law_number", none)) ["reader"] spLNumber := by
  refine T.F_l_number.ok sc_l_number (fun vs H Q E h => ?_) (fun cdv A outer s H vs Q E hr h => ?_)
  · obtain ⟨r, ws, n, wl, s, rfl, _⟩ := h
    rfl
  obtain ⟨r, ws, n, wl, ss, rfl, R0, k⟩ := h
  refine ⟨_, PSs.nox (pss_cons (ps_if (pt_val (pe_call (ok_l_on T) hr rfl T.g__law_on T.F_l_on.kp (b_l_on T) .nil pass0 (pa_cons (pv 0) (pa_cons pe_str pa_nil))))
      (pss_one (ps_ret (pe_op op_sub pe_int (pe_call (ok_l_numeral T) hr rfl T.g__law_numeral T.F_l_numeral.kp (b_l_numeral T) .nil pass0 (pa_cons (pv 0) (pa_cons pe_int (pa_cons (pe_op op_pow pe_int pe_int) pa_nil)))))))
      pss_nil)
    (pss_one (ps_ret (pe_call (ok_l_numeral T) hr rfl T.g__law_numeral T.F_l_numeral.kp (b_l_numeral T) .nil pass0 (pa_cons (pv 0) (pa_cons pe_int (pa_cons (pe_op op_pow pe_int pe_int) pa_nil))))))), ?_⟩
  refine ⟨_, rfl, ?_⟩
  refine ⟨r, ws, n, wl, ss, [45], by rw [zm]; rfl, by decide, R0, fun H1 R1 b1 => ?_⟩
  refine ⟨_, rfl, ?_⟩
  have fall : ∀ s1, LR ws n r wl s1 H1 → mS (mNumber ws n) ss = mS (mNum ws n 0 1000000) s1 → OutI ws n r wl H1 Q (mNum ws n 0 1000000) s1 := fun s1 _ e z H2 hz R2 b2 => k z H2 (by rw [e]; exact hz) (by rw [e]; exact R2) (But.trans b1 b2)
  cases ss with
  | st p =>
    refine iteF' rfl ?_
    refine ⟨_, rfl, _, _, rfl, rfl, ⟨by decide, by decide, by decide⟩, ?_⟩
    exact ⟨r, ws, n, wl, .st p, 0, 1000000, rfl, R1, fall _ R1 rfl⟩
  | go i =>
    by_cases hw : wAt ws i = [45]
    · rw [onS_go, if_pos hw] at R1
      refine iteT' (decide_eq_true hw) ?_
      refine ⟨_, rfl, _, _, rfl, rfl, ⟨by decide, by decide, by decide⟩, ?_⟩
      refine ⟨r, ws, n, wl, .go (i + 1), 1, 1000000, rfl, R1, fun z H2 hz R2 b2 => ?_⟩
      refine ⟨_, _, rfl, rfl, ?_⟩
      have em : mS (mNumber ws n) (.go i) = mS (fun j => rb (mNum ws n 1 1000000 j) fun v j => .ok (0 - v, j)) (.go (i + 1)) := by
        rw [mSg, mSg]
        unfold mNumber
        rw [if_pos hw]
      have e2 := em.trans (mS_bind (f := fun v j => .ok (0 - v, j)) z hz)
      refine k (0 - z) H2 (fun v hv => ?_) ?_ (But.trans b1 b2)
      · rw [e2] at hv
        cases hs : (mS (mNum ws n 1 1000000) (.go (i + 1))).2 with
        | go j => rw [hs] at hv; cases hv; rfl
        | st p => rw [hs] at hv; cases hv
      · rw [e2]
        cases hs : (mS (mNum ws n 1 1000000) (.go (i + 1))).2 with
        | go j => rw [hs] at R2; exact R2
        | st p => rw [hs] at R2; exact R2
    · rw [onS_go, if_neg hw] at R1
      refine iteF' (decide_eq_false hw) ?_
      refine ⟨_, rfl, _, _, rfl, rfl, ⟨by decide, by decide, by decide⟩, ?_⟩
      exact ⟨r, ws, n, wl, .go i, 0, 1000000, rfl, R1, fall _ R1 (by rw [mSg, mSg]; unfold mNumber; rw [if_neg hw])⟩
theorem mS_map {α β : Type} {g : β → α} {s : LS} {v : β} : mS (fun j => (.ok (g v, j) : Rd α)) s = match s with
  | .go j => (some (g v), .go j)
  | .st p => (none, .st p) := by cases s <;> rfl
theorem mS_var {ws : List (Wd × Nat)} {n : Nat} {s : LS} {lo hi : Int} (h : ¬ isVar (nowOf ws s) lo hi = true) : mS (mVar ws n lo hi) s = (none, stopS ws n s) := by
  cases s with
  | go i => exact mS_err (by unfold mVar; exact if_neg h)
  | st p => rfl
/-- the second half of a literal -/
theorem mS_lit {ws : List (Wd × Nat)} {n : Nat} {s : LS} {lo hi : Int} : mS (mLit ws n lo hi) s = mS (fun j => rb (mVar ws n lo hi j) fun v j => .ok (2 * v + (if onB ws [126] s = true then 1 else 0), j)) (onS ws [126] s) := by
  cases s with
  | st p => rfl
  | go i =>
    rw [onS_go, onB_go]
    by_cases hw : wAt ws i = [126]
    · rw [if_pos hw, decide_eq_true hw, if_pos rfl, mSg, mSg]
      unfold mLit
      rw [if_pos hw]
    · rw [if_neg hw, decide_eq_false hw, if_neg Bool.false_ne_true, mSg, mSg]
      unfold mLit
      rw [if_neg hw]
      simp only [Int.add_zero]
theorem ok_l_literal (T : Txt P K mg) : FnOk P w K mg base CX0 3 (He.fAd K ("_law_literal", none)) (fdO K ("_law_literal", none)) ["reader", "least", "most"] spLLit := by
  refine T.F_l_literal.ok sc_l_literal (fun vs H Q E h => ?_) (fun cdv A outer s H vs Q E hr h => ?_)
  · obtain ⟨r, ws, n, wl, s, lo, hi, rfl, _⟩ := h
    rfl
  obtain ⟨r, ws, n, wl, s0, lo, hi, rfl, R0, k⟩ := h
  refine ⟨_, PSs.nox (pss_cons (ps_set (i := 3) sc_l_literal.nd rfl (Or.inl rfl) (pe_call (ok_l_on T) hr rfl T.g__law_on T.F_l_on.kp (b_l_on T) .nil pass0 (pa_cons (pv 0) (pa_cons pe_str pa_nil))))
    (pss_cons (ps_set (i := 4) sc_l_literal.nd rfl (Or.inl rfl) (pe_call (ok_l_now T) (hr.mono (by decide)) rfl T.g__law_now T.F_l_now.kp (b_l_now T) .nil pass0 (pa_cons (pv 0) pa_nil)))
    (pss_cons (ps_if (PW.pt (pw_or (pt_cmpR op_eq (pv 4) pe_str (nomark _)) (pw_or (pt_cmpR op_ne (pe_ix ix_str (pv 4) pe_int (fun _ _ => rfl)) pe_str (nomark _)) (pw_or (pt_not (pt_val (pe_call (ok_l_is_numeral T) (hr.mono (by decide)) rfl T.g__law_is_numeral T.F_l_is_numeral.kp (b_l_is_numeral T) .nil pass0 (pa_cons (pe_slice sl_str (pv 4) (po_some pe_int) po_none) pa_nil)))) (pw_or1 (pt_not (pt_chain op_le op_le (pv 1) (pe_callTy call_int_str (by rfl) T.z_int (by decide +kernel) (pa_cons (pe_slice sl_str (pv 4) (po_some pe_int) po_none) pa_nil)) (pv 2))))))))
      (pss_one (ps_ret (pe_callTy call_int1 (by rfl) T.z_int (by decide +kernel) (pa_cons (pe_call (ok_l_stop T) (hr.mono (by decide)) rfl T.g__law_stop T.F_l_stop.kp (b_l_stop T) .nil pass0 (pa_cons (pv 0) pa_nil)) pa_nil))))
      pss_nil)
    (pss_cons (ps_asg (pe_op op_add (pe_ix ix_list (pv 0) pe_int (fun _ _ => rfl)) pe_int) (pg_sub (pv 0) pe_int set_list))
    (pss_one (ps_ret (pe_op op_add (pe_op op_mul pe_int (pe_callTy call_int_str (by rfl) T.z_int (by decide +kernel) (pa_cons (pe_slice sl_str (pv 4) (po_some pe_int) po_none) pa_nil))) (pe_callTy call_int1 (by rfl) T.z_int (by decide +kernel) (pa_cons (pv 3) pa_nil))))))))), ?_⟩
  refine ⟨_, rfl, ?_⟩
  refine ⟨r, ws, n, wl, s0, [126], by rw [zt]; rfl, by decide, R0, fun H1 R1 b1 => ?_⟩
  refine ⟨_, rfl, ?_⟩
  refine ⟨r, ws, n, wl, _, rfl, R1, ?_⟩
  generalize hb : onB ws [126] s0 = fl
  generalize hs : onS ws [126] s0 = ss at R1
  have em : mS (mLit ws n lo hi) s0 = mS (fun j => rb (mVar ws n lo hi j) fun v j => .ok (2 * v + (if fl = true then 1 else 0), j)) ss := by
    rw [mS_lit, hb, hs]
  have hbig := nowOf_len R1
  have hbig' : (S (nowOf ws ss)).length ≤ sizeLine := by rw [S_len]; exact hbig
  have bad : ¬ isVar (nowOf ws ss) lo hi = true → mS (mLit ws n lo hi) s0 = (none, stopS ws n ss) := fun z => by
    rw [em, mS_bind 0 (fun v hv => by rw [mS_var z] at hv; cases hv), mS_var z]
    cases ss <;> rfl
  refine ⟨_, rfl, rfl, _, rfl, ?_⟩
  refine ite2 (fun h1 => ?_) (fun h1 => ?_)
  · have hw := (strIs ze).mp (of_decide_eq_true h1)
    refine iteT ?_
    refine ⟨_, rfl, ?_⟩
    refine ⟨r, ws, n, wl, ss, rfl, R1, fun H2 R2 b2 => ?_⟩
    refine .inr ⟨_, rfl, ?_⟩
    exact OutI.stop k (bad fun z => by have := (isVar_iff.mp z).1.1; rw [hw] at this; cases this) b1 R2 b2 0
  · have hne : nowOf ws ss ≠ [] := fun z => ndec h1 ((strIs ze).mpr z)
    obtain ⟨c, hc⟩ := get_some (l := nowOf ws ss) (i := 0) (by cases h : nowOf ws ss with | nil => exact absurd h hne | cons a b => simp)
    have hc' : (nowOf ws ss).head? = some c := by rw [List.head?_eq_getElem?]; exact hc
    refine ⟨_, rfl, _, _, _, rfl, rfl, hbig', S_at hc, rfl, _, rfl, ?_⟩
    refine ite2 (fun h2 => ?_) (fun h2 => ?_)
    · refine iteT ?_
      refine ⟨_, rfl, ?_⟩
      refine ⟨r, ws, n, wl, ss, rfl, R1, fun H2 R2 b2 => ?_⟩
      refine .inr ⟨_, rfl, ?_⟩
      refine OutI.stop k (bad fun z => ?_) b1 R2 b2 0
      have := (isVar_iff.mp z).1.1
      rw [hc'] at this
      cases this
      rw [show decide (V.str ⟨#[120]⟩ = V.str (PySem.Str.ofString "x")) = true from decide_eq_true ((strIs (w := [120]) zx).mpr rfl)] at h2
      cases h2
    · have hcx : c = 120 := by
        by_cases q : c = 120
        · exact q
        · rw [show decide (V.str ⟨#[c]⟩ = V.str (PySem.Str.ofString "x")) = false from decide_eq_false (fun z => q (by have := (strIs (w := [c]) zx).mp z; injection this))] at h2
          exact absurd rfl h2
      subst hcx
      refine ⟨_, rfl, _, rfl, _, rfl, hbig', ?_⟩
      rw [S_tail]
      refine ⟨_, rfl, Nat.le_trans (by rw [List.length_tail]; exact Nat.sub_le _ _) hbig, fun H2 s2 => ?_⟩
      have R2 := R1.same s2
      have b2 := But.trans b1 (Same.but (d := r) (c := r) s2)
      refine ⟨_, rfl, ?_⟩
      cases hn : isNum (nowOf ws ss).tail with
      | false =>
        refine iteT' rfl ?_
        refine iteT ?_
        refine ⟨_, rfl, ?_⟩
        refine ⟨r, ws, n, wl, ss, rfl, R2, fun H3 R3 b3 => ?_⟩
        refine .inr ⟨_, rfl, ?_⟩
        exact OutI.stop k (bad fun z => by have := (isVar_iff.mp z).1.2; rw [hn] at this; cases this) b2 R3 b3 0
      | true =>
        refine iteF' rfl ?_
        obtain ⟨e1, e2⟩ := int_S hn
        refine ⟨_, rfl, _, rfl, _, rfl, _, rfl, hbig', ?_⟩
        rw [S_tail]
        refine ⟨_, _, rfl, e1, e2, _, _, rfl, rfl, _, rfl, ?_⟩
        refine ite2 (fun h4 => ?_) (fun h4 => ?_)
        · refine ⟨_, rfl, _, _, rfl, rfl, _, rfl, ?_⟩
          refine ite2 (fun hh => ?_) (fun hh => ?_)
          · have hgt : ¬ val (nowOf ws ss).tail ≤ hi := by
              cases q : decide (val (nowOf ws ss).tail ≤ hi) with
              | true => rw [q] at hh; cases hh
              | false => exact of_decide_eq_false q
            refine ⟨_, rfl, ?_⟩
            refine ⟨r, ws, n, wl, ss, rfl, R2, fun H3 R3 b3 => ?_⟩
            refine .inr ⟨_, rfl, ?_⟩
            exact OutI.stop k (bad fun z => hgt (isVar_iff.mp z).2.2) b2 R3 b3 0
          · have hle : val (nowOf ws ss).tail ≤ hi := by
              cases q : decide (val (nowOf ws ss).tail ≤ hi) with
              | true => exact of_decide_eq_true q
              | false => rw [q] at hh; exact absurd rfl hh
            cases ss with
            | st p => exact absurd rfl hne
            | go i =>
              have R2 : LRi ws n r wl i (-1) H2 := R2
              have hat := R2.at_
              refine ⟨_, rfl, _, _, _, _, rfl, rfl, SqL.of hat, atI_nat (j := 1) rfl, _, _, rfl, rfl, _, rfl, _, _, _, _, rfl, rfl, hat, rfl, _, rfl, _, rfl, _, rfl, hbig', ?_⟩
              rw [S_tail]
              refine ⟨_, _, rfl, e1, e2, _, _, rfl, rfl, .inl (by decide), _, rfl, .inr ⟨_, rfl, ?_⟩⟩
              refine ⟨_, _, rfl, rfl, ?_⟩
              have hy : mS (mLit ws n lo hi) s0 = (some (2 * val (wAt ws i).tail + (if fl = true then 1 else 0)), .go (i + 1)) := by
                rw [em]
                refine mS_ok ?_
                have hv : mVar ws n lo hi i = .ok (val (wAt ws i).tail, i + 1) := by
                  unfold mVar
                  exact if_pos (isVar_iff.mpr ⟨⟨hc', hn⟩, of_decide_eq_true h4, hle⟩)
                rw [hv]
                rfl
              have := k (2 * val (wAt ws i).tail + (if fl = true then 1 else 0)) (upd H2 r (.lst [.ref wl, .int ((i + 1 : Nat) : Int), .int (-1), .int (n : Int)])) (fun v hv => by rw [hy] at hv; cases hv; rfl) (by rw [hy]; exact R2.put) (But.one b2)
              cases fl with
              | true => exact this
              | false => exact this
        · refine ⟨_, rfl, ?_⟩
          refine iteT ?_
          refine ⟨_, rfl, ?_⟩
          refine ⟨r, ws, n, wl, ss, rfl, R2, fun H3 R3 b3 => ?_⟩
          refine .inr ⟨_, rfl, ?_⟩
          exact OutI.stop k (bad fun z => ndec h4 (isVar_iff.mp z).2.1) b2 R3 b3 0
end
end K77
namespace K77
open PySem PySem.Spec PyProof.Rows L2
open C8 (pss_cut)
def spLTerms : Sp := fun vs H Q _ => ∃ (r : Addr) (ws : List (Wd × Nat)) (n : Nat) (wl : Addr) (s : LS) (last : Int), vs = [.ref r, .int last] ∧ LR ws n r wl s H ∧ OutD ws n r wl H Q dTms (mTerms ws n last) s
theorem on_no {ws : List (Wd × Nat)} {sg : Wd} {s : LS} (h : onB ws sg s = false) : onS ws sg s = s ∧ ∀ i, s = .go i → wAt ws i ≠ sg := by
  cases s with
  | st p => exact ⟨rfl, fun i e => by cases e⟩
  | go i =>
    rw [onB_go] at h
    have := of_decide_eq_false h
    exact ⟨by rw [onS_go, if_neg this], fun j e => by cases e; exact this⟩
theorem on_yes {ws : List (Wd × Nat)} {sg : Wd} {s : LS} (h : onB ws sg s = true) : ∃ i, s = .go i ∧ wAt ws i = sg ∧ onS ws sg s = .go (i + 1) := by
  cases s with
  | st p => cases h
  | go i =>
    rw [onB_go] at h
    have := of_decide_eq_true h
    exact ⟨i, rfl, this, by rw [onS_go, if_pos this]⟩
theorem mS_congr {α : Type} {m m' : Nat → Rd α} {s : LS} (h : ∀ i, s = .go i → m i = m' i) : mS m s = mS m' s := by
  cases s with
  | st p => rfl
  | go i => rw [mSg, mSg, h i rfl]
section
variable {P : Program} {w : World} {K : PySem.W.Frag} {mg : Str → Option Value} {base : Heap}
theorem ok_l_terms (T : Txt P K mg) : FnOk P w K mg base CX0 4 (He.fAd K ("_law_terms", none)) (fdO K ("_law_terms", none)) ["reader", "last"] spLTerms := by
  refine T.F_l_terms.ok sc_l_terms (fun vs H Q E h => ?_) (fun cdv A outer s H vs Q E hr h => ?_)
  · obtain ⟨r, ws, n, wl, s, last, rfl, _⟩ := h
    rfl
  obtain ⟨r, ws, n, wl, s0, last, rfl, R0, k⟩ := h
  refine ⟨_, PSs.nox (pss_cons (ps_if (pt_val (pe_call (ok_l_on T) (hr.mono (by decide)) rfl T.g__law_on T.F_l_on.kp (b_l_on T) .nil pass0 (pa_cons (pv 0) (pa_cons pe_str pa_nil))))
      (pss_one (ps_ret (pe_tup pa_nil)))
      pss_nil)
    (pss_cons (ps_set (i := 2) sc_l_terms.nd rfl (Or.inl rfl) (pe_call (ok_l_numeral T) (hr.mono (by decide)) rfl T.g__law_numeral T.F_l_numeral.kp (b_l_numeral T) .nil pass0 (pa_cons (pv 0) (pa_cons pe_int (pa_cons (pe_op op_pow pe_int pe_int) pa_nil)))))
    (pss_cons (ps_set (i := 3) sc_l_terms.nd rfl (Or.inl rfl) (pe_lst (pa_cons (pe_tup (pa_cons (pe_call (ok_l_literal T) hr rfl T.g__law_literal T.F_l_literal.kp (b_l_literal T) .nil pass0 (pa_cons (pv 0) (pa_cons pe_int (pa_cons (pv 1) pa_nil)))) (pa_cons (pv 2) pa_nil))) pa_nil)))
    (pss_cons (ps_while PassesOwn.never (pt_val (pe_call (ok_l_on T) (hr.mono (by decide)) rfl T.g__law_on T.F_l_on.kp (b_l_on T) .nil pass0 (pa_cons (pv 0) (pa_cons pe_str pa_nil))))
      (pss_cons (ps_set (i := 2) sc_l_terms.nd rfl (Or.inl rfl) (pe_call (ok_l_numeral T) (hr.mono (by decide)) rfl T.g__law_numeral T.F_l_numeral.kp (b_l_numeral T) .nil pass0 (pa_cons (pv 0) (pa_cons pe_int (pa_cons (pe_op op_pow pe_int pe_int) pa_nil)))))
      (pss_one (ps_expr (pe_bm PySem.F.plainAttrs_list PySem.F.slot_list_append PySem.F.type_list_append mt_append (pv 3) (pa_cons (pe_tup (pa_cons (pe_call (ok_l_literal T) hr rfl T.g__law_literal T.F_l_literal.kp (b_l_literal T) .nil pass0 (pa_cons (pv 0) (pa_cons (pe_op op_add (pe_op op_fdivN (pe_ix ix_tup (pe_ix ix_list (pv 3) (pe_un un_neg pe_int) (fun _ _ => rfl)) pe_int (fun _ _ => rfl)) pe_int) pe_int) (pa_cons (pv 1) pa_nil)))) (pa_cons (pv 2) pa_nil))) pa_nil))))))
    (pss_one (ps_ret (pe_callTy call_tuple_of (by rfl) T.z_tuple (by decide +kernel) (pa_cons (pv 3) pa_nil)))))))), ?_⟩
  refine ⟨_, rfl, ?_⟩
  refine ⟨r, ws, n, wl, s0, [48], by rw [z0]; rfl, by decide, R0, fun H1 R1 b1 => ?_⟩
  refine ⟨_, rfl, ?_⟩
  cases hon : onB ws [48] s0 with
  | true =>
    obtain ⟨i, rfl, hw, e1⟩ := on_yes hon
    rw [e1] at R1
    refine iteT' rfl ?_
    refine ⟨(by show 0 ≤ sizeLine; decide), fun p2 np2 => ?_⟩
    have hy : mS (mTerms ws n last) (.go i) = (some [], .go (i + 1)) := mS_ok (by rw [mTerms_rb, if_pos hw])
    exact k _ _ (fun v hv => by rw [hy] at hv; cases hv; exact .tup upd_same .nil) (by rw [hy]; exact R1.new np2) (R1.bnew b1 np2)
  | false =>
    obtain ⟨e1, hno⟩ := on_no hon
    rw [e1] at R1
    refine iteF' rfl ?_
    have em : mS (mTerms ws n last) s0 = mS (fun i => rb (mNum ws n 1 1000000 i) fun wt j => rb (mLit ws n 0 last j) fun l k => mLoop ws n ws.length last [(l, wt)] k) s0 := mS_congr fun i e => by
      rw [mTerms_rb, if_neg (hno i e), mTerm_rb, rb_rb]
      congr 1
      funext wt j
      rw [rb_rb]
      rfl
    refine ⟨_, rfl, _, _, rfl, rfl, ⟨by decide, by decide, by decide⟩, ?_⟩
    refine ⟨r, ws, n, wl, s0, 1, 1000000, rfl, R1, fun wt H2 hwt R2 b2 => ?_⟩
    rw [mS_bind wt hwt] at em
    have g1 : ∀ j, (mS (mNum ws n 1 1000000) s0).2 = .go j → 1 ≤ j := fun j hj => by
      obtain ⟨i, v, _, hm, _⟩ := mS_go hj
      have := mNum_le hm
      omega
    generalize hs1 : (mS (mNum ws n 1 1000000) s0).2 = s1 at *
    refine ⟨_, rfl, _, rfl, ?_⟩
    have b12 := But.trans b1 b2
    refine ⟨r, ws, n, wl, s1, 0, last, rfl, R2, fun l H3 hl R3 b3 => ?_⟩
    rw [mS_bind l hl] at em
    have g2 : ∀ j, (mS (mLit ws n 0 last) s1).2 = .go j → 2 ≤ j := fun j hj => by
      obtain ⟨i, v, e, hm, _⟩ := mS_go hj
      have := mLit_le hm
      have := g1 i e
      omega
    generalize hs2 : (mS (mLit ws n 0 last) s1).2 = s2 at *
    have b13 := But.trans b12 b3
    refine ⟨_, rfl, (by show 2 ≤ sizeLine; decide), fun p3 np3 => ?_⟩
    refine ⟨(by show 1 ≤ sizeLine; decide), fun p4 np4 => ?_⟩
    have R3a := R3.new (o := .tup [.int l, .int wt]) np3
    have b3a := R3.bnew (o := .tup [.int l, .int wt]) b13 np3
    have R4 := R3a.new (o := .lst [.ref p3]) np4
    have b4 := R3a.bnew (o := .lst [.ref p3]) b3a np4
    have hp4 := R3a.ref np4
    have np40 : H p4 = none := But.free b3a hp4.1 hp4.1 np4
    have p34 : p3 ≠ p4 := ne_of_none upd_same np4
    refine ⟨fun m σ' H' => ∃ (s : LS) (acc : Tm) (q : Int × Int) (wt : Int) (ys : List V) (a : Addr), σ' = [some (.ref r), some (.int last), some (.int wt), some (.ref p4)] ∧ LR ws n r wl s H' ∧ But r r H H' ∧
      H' p4 = some (.lst (ys ++ [.ref a])) ∧ DAs H' ys (acc.map dTm) ∧ H' a = some (.tup [.int q.1, .int q.2]) ∧ mS (mTerms ws n last) s0 = mS (mLoop ws n m last (acc ++ [q])) s ∧ (∀ i, s = .go i → ws.length ≤ i + m ∧ acc.length + 1 ≤ i),
      ⟨ws.length, s2, [], (l, wt), wt, [], p3, rfl, R4, b4, upd_same, .nil, by rw [upd_ne p34]; exact upd_same, em, fun i e => ⟨by omega, by have := g2 i e; show 0 + 1 ≤ _; omega⟩⟩, ?_⟩
    clear em g1 g2
    rintro m σ' H' ⟨s, acc, q, wt, ys, a, rfl, R5, b5, hl, hys, ha, hm, hb⟩
    refine ⟨_, rfl, ?_⟩
    refine ⟨r, ws, n, wl, s, [43], by rw [zp]; rfl, by decide, R5, fun H6 R6 b6 => ?_⟩
    have t6 := R5.tups b6
    have hl6 := b6 _ _ hp4.1 hp4.1 hl
    have ha6 := t6 _ _ ha
    have hys6 := hys.mono t6
    have b56 := But.trans b5 b6
    refine ⟨_, rfl, ?_⟩
    cases hon : onB ws [43] s with
    | true =>
      obtain ⟨i, rfl, hw, e1⟩ := on_yes hon
      rw [e1] at R6
      have hi := wAt_in hw
      obtain ⟨hf, hlen⟩ := hb i rfl
      refine iteT' rfl ?_
      refine ⟨_, fun _ _ q => q, ?_⟩
      cases m with
      | zero => omega
      | succ m =>
        have em : mS (mTerms ws n last) s0 = mS (fun i => rb (mNum ws n 1 1000000 i) fun wt j => rb (mLit ws n (q.1 / 2 + 1) last j) fun l k => mLoop ws n m last (acc ++ [q] ++ [(l, wt)]) k) (.go (i + 1)) := by
          rw [hm, mSg, mSg, mLoop_rb, if_pos hw, lastLit_snoc, mTerm_rb, rb_rb]
          congr 2
          funext wt j
          rw [rb_rb]
          rfl
        refine ⟨_, rfl, _, _, rfl, rfl, ⟨by decide, by decide, by decide⟩, ?_⟩
        refine ⟨r, ws, n, wl, .go (i + 1), 1, 1000000, rfl, R6, fun wt H7 hwt R7 b7 => ?_⟩
        rw [mS_bind wt hwt] at em
        have g1 : ∀ j, (mS (mNum ws n 1 1000000) (.go (i + 1))).2 = .go j → i + 2 ≤ j := fun j hj => by
          obtain ⟨i', v, e, hm, _⟩ := mS_go hj
          cases e
          have := mNum_le hm
          omega
        generalize hs1 : (mS (mNum ws n 1 1000000) (.go (i + 1))).2 = s1 at *
        have t7 := R6.tups b7
        have hl7 := b7 _ _ hp4.1 hp4.1 hl6
        have ha7 := t7 _ _ ha6
        have hys7 := hys6.mono t7
        have b57 := But.trans b56 b7
        refine ⟨_, rfl, .inl ⟨rfl, _, SqL.of hl7⟩, _, rfl, _, rfl, _, rfl, _, _, _, _, rfl, rfl, SqL.of hl7, atI_last _ _, _, _, _, _, rfl, rfl, SqT.of ha7, atI_nat (j := 0) rfl, _, _, rfl, rfl, ⟨by decide, by decide⟩, _, _, rfl, rfl, _, rfl, ?_⟩
        rw [Int.fdiv_eq_ediv_of_nonneg _ (by decide)]
        refine ⟨r, ws, n, wl, s1, q.1 / 2 + 1, last, rfl, R7, fun l H8 hl' R8 b8 => ?_⟩
        rw [mS_bind l hl'] at em
        have g2 : ∀ j, (mS (mLit ws n (q.1 / 2 + 1) last) s1).2 = .go j → i + 3 ≤ j := fun j hj => by
          obtain ⟨i', v, e, hm, _⟩ := mS_go hj
          have := mLit_le hm
          have := g1 i' e
          omega
        generalize hs2 : (mS (mLit ws n (q.1 / 2 + 1) last) s1).2 = s2 at *
        have t8 := R7.tups b8
        have hl8 := b8 _ _ hp4.1 hp4.1 hl7
        have ha8 := t8 _ _ ha7
        have hys8 := hys7.mono t8
        have b58 := But.trans b57 b8
        refine ⟨_, rfl, (by show 2 ≤ sizeLine; decide), fun p6 np6 => ?_⟩
        have p64 : p4 ≠ p6 := ne_of_none hl8 np6
        have hl9 : upd H8 p6 (.tup [.int l, .int wt]) p4 = some (.lst (ys ++ [.ref a])) := by rw [upd_ne p64]; exact hl8
        have hyl := hys.length
        rw [List.length_map] at hyl
        have hcnt : ws.length < sizeLine := by
          obtain ⟨_, R', _⟩ := R5.any
          exact R'.cnt
        refine ⟨_, _, _, rfl, rfl, hl9, (by rw [List.length_append]; show ys.length + 1 < _; omega), ?_⟩
        have R9 := R8.new (o := .tup [.int l, .int wt]) np6
        have b9 := R8.bnew (o := .tup [.int l, .int wt]) b58 np6
        have t9 : Tups H8 (upd (upd H8 p6 (.tup [.int l, .int wt])) p4 (.lst (ys ++ [.ref a] ++ [.ref p6]))) := (Tups.new (Tups.refl H8) np6).trans (Tups.set hl9)
        refine ⟨m, Nat.lt_succ_self m, s2, acc ++ [q], (l, wt), wt, ys ++ [.ref a], p6, rfl, R9.set hl9 hp4.1 hp4.2, But.new b9 np40, upd_same, ?_, ?_, em, fun j e => ⟨by have := g2 j e; omega, by have := g2 j e; rw [List.length_append]; show acc.length + 1 + 1 ≤ _; omega⟩⟩
        · rw [List.map_append]
          exact DAs.snoc (hys8.mono t9) (DA.ofTm (t9 _ _ ha8))
        · rw [upd_ne p64.symm]
          exact upd_same
    | false =>
      obtain ⟨e1, hno⟩ := on_no hon
      rw [e1] at R6
      refine iteF' rfl ?_
      refine ⟨_, rfl, _, _, rfl, .inl ⟨SqL.of hl6, fun p7 np7 => ?_⟩⟩
      have hm' : mS (mTerms ws n last) s0 = mS (fun i => .ok (acc ++ [q], i)) s := by
        rw [hm]
        refine mS_congr fun i e => ?_
        cases m with
        | zero => rw [mLoop]
        | succ m => rw [mLoop_rb, if_neg (hno i e)]
      have t7 : Tups H6 (upd H6 p7 (.tup (ys ++ [.ref a]))) := Tups.new (Tups.refl H6) np7
      have hda : DA (upd H6 p7 (.tup (ys ++ [.ref a]))) (.ref p7) (dTms (acc ++ [q])) := by
        refine .tup upd_same ?_
        rw [List.map_append]
        exact DAs.snoc (hys6.mono t7) (DA.ofTm (t7 _ _ ha6))
      refine k _ _ (fun v hv => ?_) ?_ (R6.bnew b56 np7)
      · rw [hm'] at hv
        cases s with
        | go i => cases hv; exact hda
        | st p => cases hv
      · rw [hm']
        cases s with
        | go i => exact R6.new np7
        | st p => exact R6.new np7
end
end K77
namespace K77
open PySem PySem.Spec PyProof.Rows L2
open C8 (pss_cut)
def dAns (o : Option Pb × LS) : Da := match o with
  | (some pb, _) => .tup [dPb pb, .int (-1)]
  | (none, .st p) => .tup [.non, .int (p : Int)]
  | (none, .go _) => .non
def spLRead (K : PySem.W.Frag) : Sp := fun vs H Q _ => ∃ (t : List Nat), vs = [.str (S t)] ∧ t.length < sizeLine ∧ ∀ x H', DA H' x (dAns (rs (mProbR (toks t 0) t.length))) → Same H H' → Q x H'
theorem wrOf_neg {s : LS} : decide (wrOf s < 0) = true ↔ ∃ i, s = .go i := by
  cases s with
  | go i => exact ⟨fun _ => ⟨i, rfl⟩, fun _ => by show decide ((-1 : Int) < 0) = true; decide⟩
  | st p => exact ⟨fun h => by have := of_decide_eq_true h; have : (p : Int) < 0 := this; omega, fun ⟨i, e⟩ => by cases e⟩
/-- data that one part gave, if it went on -/
theorem OutD.got {α : Type} {m : Nat → Rd α} {s : LS} {H : Hp} {x : V} {enc : α → Da} (d : α) (h : ∀ v, (mS m s).1 = some v → DA H x (enc v)) : ∃ v : α, (∀ u, (mS m s).1 = some u → u = v) ∧ ∀ j, (mS m s).2 = .go j → DA H x (enc v) := by
  cases e : (mS m s).1 with
  | some v => exact ⟨v, fun u hu => by cases hu; rfl, fun j _ => h v e⟩
  | none => exact ⟨d, fun u hu => (by cases hu), fun j hj => by
      obtain ⟨i, v, _, _, e2⟩ := mS_go hj
      rw [e] at e2
      cases e2⟩
theorem mS_back {α : Type} {m : Nat → Rd α} {s : LS} {j : Nat} (h : (mS m s).2 = .go j) : ∃ i, s = .go i := by
  obtain ⟨i, _, e, _⟩ := mS_go h
  exact ⟨i, e⟩
section
variable {P : Program} {w : World} {K : PySem.W.Frag} {mg : Str → Option Value} {base : Heap}
theorem ok_l_read (T : Txt P K mg) : FnOk P w K mg base CX0 5 (He.fAd K ("_law_read", none)) (fdO K ("_law_read", none)) ["text"] (spLRead K) := by
  refine T.F_l_read.ok sc_l_read (fun vs H Q E h => ?_) (fun cdv A outer s H vs Q E hr h => ?_)
  · obtain ⟨t, rfl, _⟩ := h
    rfl
  obtain ⟨t, rfl, ht, k0⟩ := h
  refine ⟨_, PSs.nox (pss_cons (ps_set (i := 1) sc_l_read.nd rfl (Or.inl rfl) (pe_lst (pa_cons (pe_call (ok_l_split T) (hr.mono (by decide)) rfl T.g__law_split T.F_l_split.kp (b_l_split T) .nil pass0 (pa_cons (pv 0) pa_nil)) (pa_cons pe_int (pa_cons (pe_un un_neg pe_int) (pa_cons (pe_callB call_len_str (by rfl) T.z_len (by decide +kernel) (pa_cons (pv 0) pa_nil)) pa_nil))))))
    (pss_cons (ps_expr (pe_call (ok_l_need T) (hr.mono (by decide)) rfl T.g__law_need T.F_l_need.kp (b_l_need T) .nil pass0 (pa_cons (pv 1) (pa_cons pe_str pa_nil))))
    (pss_cons (ps_par3 (i := 2) (j := 3) (l := 4) (by rfl) sc_l_read.nd rfl rfl rfl (by decide) (by decide) (by decide) rfl rfl rfl (pa_cons (pe_call (ok_l_numeral T) (hr.mono (by decide)) rfl T.g__law_numeral T.F_l_numeral.kp (b_l_numeral T) .nil pass0 (pa_cons (pv 1) (pa_cons pe_int (pa_cons pe_int pa_nil)))) (pa_cons pe_non (pa_cons (pe_lst pa_nil) pa_nil))) (by rfl))
    (pss_cut (ps_if (pt_val (pe_call (ok_l_on T) (hr.mono (by decide)) rfl T.g__law_on T.F_l_on.kp (b_l_on T) .nil pass0 (pa_cons (pv 1) (pa_cons pe_str pa_nil))))
      (pss_cons (ps_set (i := 5) sc_l_read.nd rfl (Or.inl rfl) (pe_call (ok_l_terms T) hr rfl T.g__law_terms T.F_l_terms.kp (b_l_terms T) .nil pass0 (pa_cons (pv 1) (pa_cons (pe_op op_sub (pv 2) pe_int) pa_nil))))
      (pss_cons (ps_expr (pe_call (ok_l_need T) (hr.mono (by decide)) rfl T.g__law_need T.F_l_need.kp (b_l_need T) .nil pass0 (pa_cons (pv 1) (pa_cons pe_str pa_nil))))
      (pss_one (ps_set (i := 3) sc_l_read.nd rfl (Or.inl rfl) (pe_tup (pa_cons (pv 5) (pa_cons (pe_call (ok_l_number T) (hr.mono (by decide)) rfl T.g__law_number T.F_l_number.kp (b_l_number T) .nil pass0 (pa_cons (pv 1) pa_nil)) pa_nil)))))))
      pss_nil)
    (pss_cons (ps_while PassesOwn.never (pt_val (pe_call (ok_l_on T) (hr.mono (by decide)) rfl T.g__law_on T.F_l_on.kp (b_l_on T) .nil pass0 (pa_cons (pv 1) (pa_cons pe_str pa_nil))))
      (pss_cons (ps_set (i := 5) sc_l_read.nd rfl (Or.inl rfl) (pe_call (ok_l_terms T) hr rfl T.g__law_terms T.F_l_terms.kp (b_l_terms T) .nil pass0 (pa_cons (pv 1) (pa_cons (pe_op op_sub (pv 2) pe_int) pa_nil))))
      (pss_cons (ps_expr (pe_call (ok_l_need T) (hr.mono (by decide)) rfl T.g__law_need T.F_l_need.kp (b_l_need T) .nil pass0 (pa_cons (pv 1) (pa_cons pe_str pa_nil))))
      (pss_cons (ps_expr (pe_call (ok_l_need T) (hr.mono (by decide)) rfl T.g__law_need T.F_l_need.kp (b_l_need T) .nil pass0 (pa_cons (pv 1) (pa_cons pe_str pa_nil))))
      (pss_one (ps_expr (pe_bm PySem.F.plainAttrs_list PySem.F.slot_list_append PySem.F.type_list_append mt_append (pv 4) (pa_cons (pe_tup (pa_cons (pv 5) (pa_cons (pe_call (ok_l_number T) (hr.mono (by decide)) rfl T.g__law_number T.F_l_number.kp (b_l_number T) .nil pass0 (pa_cons (pv 1) pa_nil)) pa_nil))) pa_nil))))))))
    (pss_cut (ps_if (PW.pt (pw_and (pt_cmpR op_lt (pe_ix ix_list (pv 1) pe_int (fun _ _ => rfl)) pe_int (nomark _)) (pw_and1 (pt_cmpR op_lt (pe_ix ix_list (pv 1) pe_int (fun _ _ => rfl)) (pe_callB call_len_seq (by rfl) T.z_len (by decide +kernel) (pa_cons (pe_ix ix_list (pv 1) pe_int (fun _ _ => rfl)) pa_nil)) (nomark _)))))
      (pss_one (ps_expr (pe_call (ok_l_stop T) (hr.mono (by decide)) rfl T.g__law_stop T.F_l_stop.kp (b_l_stop T) .nil pass0 (pa_cons (pv 1) pa_nil))))
      pss_nil)
    (pss_one (ps_ret (pe_ifExp (pt_cmpR op_lt (pe_ix ix_list (pv 1) pe_int (fun _ _ => rfl)) pe_int (nomark _)) (pe_tup (pa_cons (pe_tup (pa_cons (pv 2) (pa_cons (pe_callTy call_tuple_of (by rfl) T.z_tuple (by decide +kernel) (pa_cons (pv 4) pa_nil)) (pa_cons (pv 3) pa_nil)))) (pa_cons (pe_un un_neg pe_int) pa_nil))) (pe_tup (pa_cons pe_non (pa_cons (pe_ix ix_list (pv 1) pe_int (fun _ _ => rfl)) pa_nil)))))))))))), ?_⟩
  have hl : (S t).length ≤ sizeLine := by rw [S_len]; omega
  refine ⟨_, rfl, ?_⟩
  refine ⟨t, rfl, ht, fun wl xs H1 s1 nwl hwl hW => ?_⟩
  refine ⟨_, rfl, _, rfl, _, rfl, hl, (by show 4 ≤ sizeLine; decide), fun r nr => ?_⟩
  rw [S_len]
  have hwr : wl ≠ r := ne_of_none hwl nr
  have R0 : LRi (toks t 0) t.length r wl 0 (-1) (upd H1 r (.lst [.ref wl, .int 0, .int (-1), .int (t.length : Int)])) :=
    ⟨upd_same, hwr, ⟨xs, by rw [upd_ne hwr]; exact hwl, hW.mono (Tups.new (Tups.refl H1) nr)⟩, toks_big (by omega), by have := toks_cnt t 0 (Nat.zero_le _); omega⟩
  have sm0 : Same H (upd H1 r (.lst [.ref wl, .int 0, .int (-1), .int (t.length : Int)])) := Same.nw s1 nr
  have nr0 : H r = none := Same.free s1 nr
  generalize hH0 : upd H1 r (.lst [.ref wl, .int 0, .int (-1), .int (t.length : Int)]) = H0 at *
  generalize hws : toks t 0 = ws at *
  generalize hn : t.length = n at *
  have sm1 : ∀ H', But r r H0 H' → Same H H' := fun H' b' b o e => b' b o (ne_of_none e nr0) (ne_of_none e nr0) (sm0 b o e)
  have k : ∀ x H', DA H' x (dAns (rs (mProbR ws n))) → But r r H0 H' → Q x H' := fun x H' hx b => k0 x H' hx (sm1 H' b)
  have R0 : LR ws n r wl (.go 0) H0 := R0
  generalize hT0 : rs (mProbR ws n) = T0 at k
  have em : T0 = mS (fun i => rb (mMark ws n sProblem i) fun _ i => rb (mNum ws n 1 60 i) fun many j =>
    if wAt ws j = sPrice then rb (mPrice ws n (many - 1) (j + 1)) fun q k => mRestR ws n many (some q) k else mRestR ws n many none j) (.go 0) := by
    rw [← hT0]
    rfl
  clear hT0 hws hn hH0 k0 sm0 s1
  refine ⟨_, rfl, ?_⟩
  refine ⟨r, ws, n, wl, .go 0, sProblem, by rw [zproblem]; rfl, by decide, R0, fun _ H2 R2 b2 => ?_⟩
  rw [mS_bind () (fun _ _ => rfl)] at em
  generalize (mS (mMark ws n sProblem) (.go 0)).2 = s2 at *
  refine ⟨_, rfl, ?_⟩
  refine ⟨r, ws, n, wl, s2, 1, 60, rfl, R2, fun many H3 hmany R3 b3 => ?_⟩
  rw [mS_bind many hmany] at em
  generalize (mS (mNum ws n 1 60) s2).2 = s3 at *
  have b13 := But.trans b2 b3
  refine ⟨(by show 0 ≤ sizeLine; decide), fun p2 np2 => ?_⟩
  have R4 := R3.new (o := .lst []) np2
  have b14 := R3.bnew (o := .lst []) b13 np2
  have hp2 := R3.ref np2
  have np20 : H0 p2 = none := But.free b13 hp2.1 hp2.1 np2
  refine ⟨_, _, _, rfl, ?_⟩
  refine ⟨fun σ' H' => ∃ (pr : Option (Tm × Int)) (ss : LS) (x : V) (z : Option V), σ' = [some (.str (S t)), some (.ref r), some (.int many), some x, some (.ref p2), z] ∧ LR ws n r wl ss H' ∧ But r r H0 H' ∧ H' p2 = some (.lst []) ∧
    (∀ i, ss = .go i → DA H' x (dPr pr)) ∧ T0 = mS (mRestR ws n many pr) ss, ?_, ?_⟩
  · refine ⟨_, rfl, ?_⟩
    refine ⟨r, ws, n, wl, s3, sPrice, by rw [zprice]; rfl, by decide, R4, fun H5 R5 b5 => ?_⟩
    have hl5 := b5 _ _ hp2.1 hp2.1 upd_same
    have b15 := But.trans b14 b5
    refine ⟨_, rfl, ?_⟩
    cases hon : onB ws sPrice s3 with
    | true =>
      obtain ⟨i, rfl, hw, e1⟩ := on_yes hon
      rw [e1] at R5
      refine iteT' rfl ?_
      have em : T0 = mS (fun i => rb (mTerms ws n (many - 1) i) fun t j => rb (mMark ws n sFrom j) fun _ k => rb (mNumber ws n k) fun v m => mRestR ws n many (some (t, v)) m) (.go (i + 1)) := by
        rw [em, mSg, mSg, if_pos hw, mPrice_rb, rb_rb]
        congr 2
        funext t j
        rw [rb_rb]
        congr 1
        funext _ k
        rw [rb_rb]
        rfl
      refine ⟨_, rfl, _, rfl, _, _, rfl, rfl, ?_⟩
      refine ⟨r, ws, n, wl, .go (i + 1), many - 1, rfl, R5, fun x H6 hx R6 b6 => ?_⟩
      obtain ⟨tm, htm, hx6⟩ := OutD.got ([] : Tm) hx
      rw [mS_bind tm htm] at em
      generalize (mS (mTerms ws n (many - 1)) (.go (i + 1))).2 = s4 at *
      have hl6 := b6 _ _ hp2.1 hp2.1 hl5
      have b16 := But.trans b15 b6
      refine ⟨_, rfl, ?_⟩
      refine ⟨r, ws, n, wl, s4, sFrom, by rw [zfrom]; rfl, by decide, R6, fun _ H7 R7 b7 => ?_⟩
      rw [mS_bind () (fun _ _ => rfl)] at em
      have bk7 : ∀ j, (mS (mMark ws n sFrom) s4).2 = .go j → ∃ i, s4 = .go i := fun j => mS_back
      generalize (mS (mMark ws n sFrom) s4).2 = s5 at *
      have hl7 := b7 _ _ hp2.1 hp2.1 hl6
      have b17 := But.trans b16 b7
      have t7 := R6.tups b7
      refine ⟨_, rfl, _, rfl, ?_⟩
      refine ⟨r, ws, n, wl, s5, rfl, R7, fun z H8 hz R8 b8 => ?_⟩
      rw [mS_bind z hz] at em
      have bk8 : ∀ j, (mS (mNumber ws n) s5).2 = .go j → ∃ i, s5 = .go i := fun j => mS_back
      generalize (mS (mNumber ws n) s5).2 = s6 at *
      have hl8 := b8 _ _ hp2.1 hp2.1 hl7
      have b18 := But.trans b17 b8
      have t8 := R7.tups b8
      refine ⟨(by show 2 ≤ sizeLine; decide), fun p4 np4 => ?_⟩
      have t9 : Tups H8 (upd H8 p4 (.tup [x, .int z])) := Tups.new (Tups.refl H8) np4
      refine ⟨some (tm, z), s6, .ref p4, _, rfl, R8.new np4, R8.bnew b18 np4, by rw [upd_ne (ne_of_none hl8 np4)]; exact hl8, fun j e => ?_, em⟩
      obtain ⟨j5, e5⟩ := bk8 j e
      obtain ⟨j4, e4⟩ := bk7 j5 e5
      exact .tup upd_same (.cons ((((hx6 j4 e4).mono t7).mono t8).mono t9) (.cons (.int _) .nil))
    | false =>
      obtain ⟨e1, hno⟩ := on_no hon
      rw [e1] at R5
      refine iteF' rfl ?_
      refine ⟨none, s3, .non, _, rfl, R5, b15, hl5, fun _ _ => .non, ?_⟩
      rw [em]
      exact mS_congr fun i e => by rw [if_neg (hno i e)]
  · rintro σ' H' ⟨pr, ss0, xp, z0, rfl, R5, b5, hl5, hxp0, em⟩
    clear R4 R3 b13 b14 b3 b2 R2 R0 np2 hmany
    refine ⟨fun m σ' H' => ∃ (acc : List (Tm × Int)) (ss : LS) (ys : List V) (z : Option V), σ' = [some (.str (S t)), some (.ref r), some (.int many), some xp, some (.ref p2), z] ∧ LR ws n r wl ss H' ∧ But r r H0 H' ∧ H' p2 = some (.lst ys) ∧
      (∀ i, ss = .go i → DAs H' ys (acc.map dSum) ∧ DA H' xp (dPr pr) ∧ ws.length ≤ i + m ∧ acc.length ≤ i) ∧
      T0 = mS (fun i => rb (mSums ws n m (many - 1) acc i) (fun sums j => if j < ws.length then .error (pAt ws n j) else .ok ((many, sums, pr), j))) ss,
      ⟨ws.length, [], ss0, [], z0, rfl, R5, b5, hl5, fun i e => ⟨.nil, hxp0 i e, by omega, Nat.zero_le _⟩, em⟩, ?_⟩
    clear em R5 b5 hl5 hxp0
    rintro m σ' H' ⟨acc, ss, ys, z1, rfl, R6, b6, hl, hgo, em⟩
    refine ⟨_, rfl, ?_⟩
    refine ⟨r, ws, n, wl, ss, [59], by rw [zsemi]; rfl, by decide, R6, fun H7 R7 b7 => ?_⟩
    have t7 := R6.tups b7
    have hl7 := b7 _ _ hp2.1 hp2.1 hl
    have b17 := But.trans b6 b7
    refine ⟨_, rfl, ?_⟩
    cases hon : onB ws [59] ss with
    | true =>
      obtain ⟨i, rfl, hw, e1⟩ := on_yes hon
      rw [e1] at R7
      have hi := wAt_in hw
      obtain ⟨hys, hxp, hf, hlen⟩ := hgo i rfl
      refine iteT' rfl ?_
      refine ⟨_, fun _ _ q => q, ?_⟩
      cases m with
      | zero => omega
      | succ m =>
        have em : T0 = mS (fun i => rb (mTerms ws n (many - 1) i) fun t j => rb (mMark ws n [62] j) fun _ k => rb (mMark ws n [61] k) fun _ l => rb (mNumber ws n l) fun v o => rb (mSums ws n m (many - 1) (acc ++ [(t, v)]) o) (fun sums j => if j < ws.length then .error (pAt ws n j) else .ok ((many, sums, pr), j))) (.go (i + 1)) := by
          rw [em, mSg, mSg, mSums_rb, if_pos hw, mSum_rb, rb_rb, rb_rb]
          congr 2
          funext t j
          rw [rb_rb]
          congr 1
          funext _ k
          rw [rb_rb]
          congr 1
          funext _ l
          rw [rb_rb]
          rfl
        refine ⟨_, rfl, _, rfl, _, _, rfl, rfl, ?_⟩
        refine ⟨r, ws, n, wl, .go (i + 1), many - 1, rfl, R7, fun x H8 hx R8 b8 => ?_⟩
        obtain ⟨tm, htm, hx8⟩ := OutD.got ([] : Tm) hx
        rw [mS_bind tm htm] at em
        have g8 : ∀ j, (mS (mTerms ws n (many - 1)) (.go (i + 1))).2 = .go j → i + 1 < j := fun j hj => by
          obtain ⟨i', v, e, hm, _⟩ := mS_go hj
          cases e
          exact mTerms_le hm
        generalize (mS (mTerms ws n (many - 1)) (.go (i + 1))).2 = s4 at *
        have t8 := R7.tups b8
        have hl8 := b8 _ _ hp2.1 hp2.1 hl7
        have b18 := But.trans b17 b8
        refine ⟨_, rfl, ?_⟩
        refine ⟨r, ws, n, wl, s4, [62], by rw [zgt]; rfl, by decide, R8, fun _ H9 R9 b9 => ?_⟩
        rw [mS_bind () (fun _ _ => rfl)] at em
        have g9 : ∀ j, (mS (mMark ws n [62]) s4).2 = .go j → ∃ i, s4 = .go i ∧ i < j := fun j hj => by
          obtain ⟨i', v, e, hm, _⟩ := mS_go hj
          have := mMark_le hm
          exact ⟨i', e, by omega⟩
        generalize (mS (mMark ws n [62]) s4).2 = s5 at *
        have t9 := R8.tups b9
        have hl9 := b9 _ _ hp2.1 hp2.1 hl8
        have b19 := But.trans b18 b9
        refine ⟨_, rfl, ?_⟩
        refine ⟨r, ws, n, wl, s5, [61], by rw [zeq]; rfl, by decide, R9, fun _ H10 R10 b10 => ?_⟩
        rw [mS_bind () (fun _ _ => rfl)] at em
        have g10 : ∀ j, (mS (mMark ws n [61]) s5).2 = .go j → ∃ i, s5 = .go i ∧ i < j := fun j hj => by
          obtain ⟨i', v, e, hm, _⟩ := mS_go hj
          have := mMark_le hm
          exact ⟨i', e, by omega⟩
        generalize (mS (mMark ws n [61]) s5).2 = s6 at *
        have t10 := R9.tups b10
        have hl10 := b10 _ _ hp2.1 hp2.1 hl9
        have b110 := But.trans b19 b10
        refine ⟨_, rfl, .inl ⟨rfl, _, SqL.of hl10⟩, _, rfl, _, rfl, ?_⟩
        refine ⟨r, ws, n, wl, s6, rfl, R10, fun z H11 hz R11 b11 => ?_⟩
        rw [mS_bind z hz] at em
        have g11 : ∀ j, (mS (mNumber ws n) s6).2 = .go j → ∃ i, s6 = .go i ∧ i < j := fun j hj => by
          obtain ⟨i', v, e, hm, _⟩ := mS_go hj
          exact ⟨i', e, mNumber_le hm⟩
        generalize (mS (mNumber ws n) s6).2 = s7 at *
        have t11 := R10.tups b11
        have hl11 := b11 _ _ hp2.1 hp2.1 hl10
        have b111 := But.trans b110 b11
        refine ⟨(by show 2 ≤ sizeLine; decide), fun p6 np6 => ?_⟩
        have p62 : p2 ≠ p6 := ne_of_none hl11 np6
        have hl12 : upd H11 p6 (.tup [x, .int z]) p2 = some (.lst ys) := by rw [upd_ne p62]; exact hl11
        have hyl := hys.length
        rw [List.length_map] at hyl
        have hcnt : ws.length < sizeLine := by
          obtain ⟨_, R', _⟩ := R6.any
          exact R'.cnt
        refine ⟨_, _, _, rfl, rfl, hl12, (by omega), ?_⟩
        have R12 := R11.new (o := .tup [x, .int z]) np6
        have b12 := R11.bnew (o := .tup [x, .int z]) b111 np6
        have t12 : Tups H11 (upd (upd H11 p6 (.tup [x, .int z])) p2 (.lst (ys ++ [.ref p6]))) := (Tups.new (Tups.refl H11) np6).trans (Tups.set hl12)
        refine ⟨m, Nat.lt_succ_self m, acc ++ [(tm, z)], s7, ys ++ [.ref p6], _, rfl, R12.set hl12 hp2.1 hp2.2, But.new b12 np20, upd_same, fun j e => ?_, em⟩
        obtain ⟨j6, e6, l6⟩ := g11 j e
        obtain ⟨j5, e5, l5⟩ := g10 j6 e6
        obtain ⟨j4, e4, l4⟩ := g9 j5 e5
        have l3 := g8 j4 e4
        have tt : Tups H8 (upd (upd H11 p6 (.tup [x, .int z])) p2 (.lst (ys ++ [.ref p6]))) := ((t9.trans t10).trans t11).trans t12
        have tt' : Tups H' (upd (upd H11 p6 (.tup [x, .int z])) p2 (.lst (ys ++ [.ref p6]))) := (t7.trans t8).trans tt
        refine ⟨?_, hxp.mono tt', by omega, by rw [List.length_append]; show acc.length + 1 ≤ j; omega⟩
        rw [List.map_append]
        refine DAs.snoc (hys.mono tt') (.tup (by rw [upd_ne p62.symm]; exact upd_same) (.cons ((hx8 j4 e4).mono tt) (.cons (.int _) .nil)))
    | false =>
      obtain ⟨e1, hno⟩ := on_no hon
      rw [e1] at R7
      refine iteF' rfl ?_
      have em : T0 = mS (fun j => if j < ws.length then .error (pAt ws n j) else .ok ((many, acc, pr), j)) ss := by
        rw [em]
        refine mS_congr fun i e => ?_
        cases m with
        | zero => rw [mSums]; rfl
        | succ m => rw [mSums_rb, if_neg (hno i e)]; rfl
      refine ⟨fun σ' H' => ∃ (s9 : LS), σ' = [some (.str (S t)), some (.ref r), some (.int many), some xp, some (.ref p2), z1] ∧ LR ws n r wl s9 H' ∧ But r r H0 H' ∧ H' p2 = some (.lst ys) ∧ T0.2 = s9 ∧
        (∀ i, s9 = .go i → DAs H' ys (acc.map dSum) ∧ DA H' xp (dPr pr) ∧ T0.1 = some (many, acc, pr)) ∧ (∀ p, s9 = .st p → T0.1 = none), ?_, ?_⟩
      · obtain ⟨i, Ri, ei⟩ := R7.any
        obtain ⟨xs7, hx7, hW7⟩ := Ri.ex
        have h1 := Ri.at_
        refine ⟨_, rfl, _, _, _, _, rfl, rfl, SqL.of h1, atI_nat (j := 2) rfl, _, _, rfl, rfl, _, rfl, ?_⟩
        cases ss with
        | st p =>
          refine iteF' (Bool.eq_false_iff.mpr fun z => by obtain ⟨i, e⟩ := wrOf_neg.mp z; cases e) ?_
          refine iteF ?_
          exact ⟨.st p, rfl, R7, b17, hl7, by rw [em]; rfl, fun i e => (by cases e), fun _ _ => by rw [em]; rfl⟩
        | go j =>
          have := ei j rfl
          subst this
          obtain ⟨hys, hxp, hf, hlen⟩ := hgo i rfl
          refine iteT' (wrOf_neg.mpr ⟨i, rfl⟩) ?_
          refine ⟨_, rfl, _, _, _, _, rfl, rfl, SqL.of h1, atI_nat (j := 1) rfl, _, rfl, _, _, _, _, rfl, rfl, SqL.of h1, atI_nat (j := 0) rfl, _, _, rfl, .inl (SqL.of hx7), _, _, rfl, rfl, _, rfl, ?_⟩
          refine ite2 (fun hh => ?_) (fun hh => ?_)
          · have hi : i < ws.length := by have := of_decide_eq_true hh; rw [hW7.1] at this; omega
            refine ⟨_, rfl, ?_⟩
            refine ⟨r, ws, n, wl, .go i, rfl, R7, fun H8 R8 b8 => ?_⟩
            have e9 : T0 = (none, .st (pAt ws n i)) := by rw [em, mSg, if_pos hi]; rfl
            exact ⟨.st (pAt ws n i), rfl, R8, But.trans b17 b8, b8 _ _ hp2.1 hp2.1 hl7, by rw [e9], fun i e => (by cases e), fun _ _ => by rw [e9]⟩
          · have hi : ¬ i < ws.length := fun z => ndec hh (by rw [hW7.1]; omega)
            have e9 : T0 = (some (many, acc, pr), .go i) := by rw [em, mSg, if_neg hi]; rfl
            exact ⟨.go i, rfl, R7, b17, hl7, by rw [e9], fun j e => ⟨hys.mono t7, hxp.mono t7, by rw [e9]⟩, fun _ e => (by cases e)⟩
      · rintro σ' H8 ⟨s9, rfl, R8, b8, hl8, e9, hg, hs⟩
        obtain ⟨i, Ri, ei⟩ := R8.any
        have h1 := Ri.at_
        refine ⟨_, rfl, _, _, _, _, rfl, rfl, SqL.of h1, atI_nat (j := 2) rfl, _, _, rfl, rfl, _, rfl, ?_⟩
        cases s9 with
        | go j =>
          obtain ⟨hys, hxp, e10⟩ := hg j rfl
          refine iteT' (wrOf_neg.mpr ⟨j, rfl⟩) ?_
          refine ⟨_, rfl, _, rfl, _, _, rfl, .inl ⟨SqL.of hl8, fun p10 np10 => ?_⟩⟩
          refine ⟨_, rfl, (by show 3 ≤ sizeLine; decide), fun p11 np11 => ?_⟩
          refine ⟨_, rfl, (by show 2 ≤ sizeLine; decide), fun p12 np12 => ?_⟩
          have R9 := R8.new (o := .tup ys) np10
          have b9 := R8.bnew (o := .tup ys) b8 np10
          have R10 := R9.new (o := .tup [.int many, .ref p10, xp]) np11
          have b10 := R9.bnew (o := .tup [.int many, .ref p10, xp]) b9 np11
          have t12 : Tups H8 (upd (upd (upd H8 p10 (.tup ys)) p11 (.tup [.int many, .ref p10, xp])) p12 (.tup [.ref p11, .int (-1)])) := Tups.new (Tups.new (Tups.new (Tups.refl H8) np10) np11) np12
          have q11 : p10 ≠ p11 := ne_of_none upd_same np11
          have q12 : p11 ≠ p12 := ne_of_none upd_same np12
          have q13 : p10 ≠ p12 := ne_of_none (by rw [upd_ne q11]; exact upd_same) np12
          refine k _ _ ?_ (R10.bnew b10 np12)
          have : T0 = (some (many, acc, pr), .go j) := Prod.ext e10 e9
          rw [this]
          refine .tup upd_same (.cons (.tup (by rw [upd_ne q12]; exact upd_same) (.cons (.int _) (.cons (.tup (by rw [upd_ne q13, upd_ne q11]; exact upd_same) (hys.mono t12)) (.cons (hxp.mono t12) .nil)))) (.cons (.int _) .nil))
        | st p =>
          refine iteF' (Bool.eq_false_iff.mpr fun z => by obtain ⟨i, e⟩ := wrOf_neg.mp z; cases e) ?_
          refine ⟨_, rfl, _, _, _, _, rfl, rfl, SqL.of h1, atI_nat (j := 2) rfl, (by show 2 ≤ sizeLine; decide), fun p13 np13 => ?_⟩
          refine k _ _ ?_ (R8.bnew b8 np13)
          have : T0 = (none, .st p) := Prod.ext (hs p rfl) e9
          rw [this]
          exact .tup upd_same (.cons .non (.cons (.int _) .nil))
end
end K77
namespace K77
open PySem PySem.Spec PyProof.Rows L2
open C8 (pss_cut)
abbrev vS (w : Wd) : V := V.str (S w)
def lw (x : Str) : Wd := x.cps.toList
theorem S_lw (x : Str) : S (lw x) = x := by
  cases x
  unfold S lw
  simp
theorem vS_lw (x : Str) : V.str x = vS (lw x) := by show V.str x = V.str (S (lw x)); rw [S_lw]
def sc (ws : List Wd) : Nat := (ws.map fun w => w.count 59).sum
theorem sc_app (a b : List Wd) : sc (a ++ b) = sc a + sc b := by
  unfold sc
  rw [List.map_append, List.sum_append]
def WsOk (N M : Nat) (ws : List Wd) : Prop := (∀ w ∈ ws, (w ≠ [] ∧ w.length ≤ 64) ∧ w.count 59 ≤ 1) ∧ ws.length ≤ N ∧ sc ws ≤ M
instance (N M : Nat) (ws : List Wd) : Decidable (WsOk N M ws) := by unfold WsOk; exact inferInstance
theorem WsOk.app {N M N' M' N2 M2 : Nat} {a b : List Wd} (h : WsOk N M a) (h' : WsOk N' M' b) (hN : N + N' ≤ N2) (hM : M + M' ≤ M2) : WsOk N2 M2 (a ++ b) := by
  obtain ⟨h1, h2, h3⟩ := h
  obtain ⟨g1, g2, g3⟩ := h'
  refine ⟨fun w hw => ?_, by rw [List.length_append]; omega, by rw [sc_app]; omega⟩
  rcases List.mem_append.mp hw with q | q
  · exact h1 w q
  · exact g1 w q
theorem WsOk.mono {N M N2 M2 : Nat} {a : List Wd} (h : WsOk N M a) (hN : N ≤ N2) (hM : M ≤ M2) : WsOk N2 M2 a := ⟨h.1, Nat.le_trans h.2.1 hN, Nat.le_trans h.2.2 hM⟩
theorem sc_drop (a : List Wd) (k : Nat) : sc (a.take k) + sc (a.drop k) = sc a := by
  rw [← sc_app, List.take_append_drop]
theorem WsOk.drop {N M : Nat} {a : List Wd} (h : WsOk N M a) (k : Nat) : WsOk N M (a.drop k) := by
  have := sc_drop a k
  have := h.2.2
  have := h.2.1
  exact ⟨fun w hw => h.1 w (List.mem_of_mem_drop hw), by rw [List.length_drop]; omega, by omega⟩
theorem WsOk.take {N M : Nat} {a : List Wd} (h : WsOk N M a) (k : Nat) : WsOk N M (a.take k) := by
  have := sc_drop a k
  have := h.2.2
  have := h.2.1
  exact ⟨fun w hw => h.1 w (List.mem_of_mem_take hw), by rw [List.length_take]; omega, by omega⟩
theorem WsOk.one {N M : Nat} {a b : List Wd} (h : WsOk N M a) (h2 : WsOk 1 1 b) : WsOk (N + 1) (M + 1) (a ++ b) := h.app h2 (Nat.le_refl _) (Nat.le_refl _)
def numW (n : Int) : Wd := lw (PySem.Str.ofString (toString n))
theorem vS_num (n : Int) : V.str (PySem.Str.ofString (toString n)) = vS (numW n) := vS_lw _
theorem numW_ok {n : Int} (h0 : 0 ≤ n) (h1 : n < 1000000000) : numW n ≠ [] ∧ (numW n).length ≤ 10 ∧ (numW n).count 59 = 0 := by
  have e : (numW n).length = (PySem.Str.ofString (toString n)).length := by
    unfold numW lw
    exact Array.length_toList
  have a := PySem.W.KLn.one_le h0
  have b := toString_length_le h0 (k := 10) (by decide) (by omega)
  refine ⟨fun z => by rw [z] at e; have : (PySem.Str.ofString (toString n)).length = 0 := e.symm; omega, by omega, ?_⟩
  exact List.count_eq_zero.mpr (int_text_free' 59 ⟨by decide, by decide⟩ n)
theorem numW_ws {n : Int} (h0 : 0 ≤ n) (h1 : n < 1000000000) : WsOk 1 0 [numW n] := by
  obtain ⟨a, b, c⟩ := numW_ok h0 h1
  refine ⟨fun w hw => ?_, Nat.le_refl _, ?_⟩
  · rw [List.mem_singleton.mp hw]
    exact ⟨⟨a, by omega⟩, by omega⟩
  · unfold sc
    rw [List.map_cons, c]
    exact Nat.le_refl _
theorem log_ok {n : Int} (h0 : 0 ≤ n) (h1 : n < 1000000000) : n.natAbs.log2 < 1920 := by
  by_cases hz : n.natAbs = 0
  · rw [hz]; decide
  · rw [Nat.log2_lt hz]
    calc n.natAbs < 2 ^ 30 := by omega
      _ ≤ 2 ^ 1920 := Nat.pow_le_pow_right (by decide) (by decide)
def LW (H : Hp) (p : Addr) (ws : List Wd) : Prop := H p = some (.lst (ws.map vS))
theorem LW.len {a b : List Wd} {N N' : Nat} (ha : a.length ≤ N) (hb : b.length ≤ N') (h : N + N' ≤ 100000) : (a.map vS).length + (b.map vS).length ≤ sizeLine := by
  rw [List.length_map, List.length_map]
  exact Nat.le_trans (by omega) (show 100000 ≤ sizeLine by decide)
theorem cutV_from {xs : List V} {k : Nat} : cutV xs (some (k : Int)) none = xs.drop k := by
  unfold cutV
  rw [HT.sIx_none, HT.sIx_nat]
  by_cases h : k ≤ xs.length
  · rw [Nat.min_eq_left h, List.take_of_length_le (by rw [List.length_drop]; exact Nat.le_refl _)]
  · rw [Nat.min_eq_right (by omega), List.drop_of_length_le (Nat.le_refl _), List.drop_of_length_le (by omega)]
    simp
theorem cutV_to {xs : List V} {k : Nat} : cutV xs none (some (k : Int)) = xs.take k := by
  unfold cutV
  rw [HT.sIx_none, HT.sIx_nat, List.drop_zero, Nat.sub_zero]
  by_cases h : k ≤ xs.length
  · rw [Nat.min_eq_left h]
  · rw [Nat.min_eq_right (by omega), List.take_of_length_le (Nat.le_refl _), List.take_of_length_le (by omega)]
def spNW : Sp := fun vs H Q _ => ∃ v : Int, vs = [.int v] ∧ -1000000 ≤ v ∧ v ≤ 1000000 ∧ ∀ p ws H', Same H H' → H p = none → LW H' p ws → WsOk 2 0 ws → Q (.ref p) H'
def spLW : Sp := fun vs H Q _ => ∃ v : Int, vs = [.int v] ∧ 0 ≤ v ∧ v ≤ 1000000 ∧ ∀ p ws H', Same H H' → H p = none → LW H' p ws → WsOk 2 0 ws → Q (.ref p) H'
def TmOk (t : Tm) : Prop := t.length ≤ 12 ∧ ∀ q ∈ t, 0 ≤ q.1 ∧ q.1 ≤ 1000 ∧ 0 ≤ q.2 ∧ q.2 ≤ 1000
def SmOk (s : Tm × Int) : Prop := TmOk s.1 ∧ -1000000 ≤ s.2 ∧ s.2 ≤ 1000000
def PbOk (p : Pb) : Prop := 1 ≤ p.1 ∧ p.1 ≤ 12 ∧ p.2.1.length ≤ 11 ∧ (∀ s ∈ p.2.1, SmOk s) ∧ ∀ q, p.2.2 = some q → SmOk q
def spTW : Sp := fun vs H Q _ => ∃ (x : V) (t : Tm), vs = [x] ∧ DA H x (dTms t) ∧ TmOk t ∧ ∀ p ws H', Same H H' → H p = none → LW H' p ws → WsOk 48 0 ws → Q (.ref p) H'
def spPW : Sp := fun vs H Q _ => ∃ (x : V) (pb : Pb), vs = [x] ∧ DA H x (dPb pb) ∧ PbOk pb ∧ ∀ p ws H', Same H H' → H p = none → LW H' p ws → WsOk 700 11 ws → Q (.ref p) H'
section
variable {P : Program} {w : World} {K : PySem.W.Frag} {mg : Str → Option Value} {base : Heap}
theorem ok_l_number_words (T : Txt P K mg) : FnOk P w K mg base CX0 1 (He.fAd K ("_law_number_words", none)) (fdO K ("_law_number_words", none)) ["number"] spNW := by
  refine T.F_l_number_words.ok sc_l_number_words (fun vs H Q E h => ?_) (fun cdv A outer s H vs Q E hr h => ?_)
  · obtain ⟨v, rfl, _⟩ := h
    rfl
  obtain ⟨v, rfl, hv1, hv2, k⟩ := h
  refine ⟨_, PSs.nox (pss_one (ps_ret (pe_ifExp (pt_cmpR op_lt (pv 0) pe_int (nomark _)) (pe_lst (pa_cons pe_str (pa_cons (pe_callTy call_str_int (by rfl) T.z_str (by decide +kernel) (pa_cons (pe_op op_sub pe_int (pv 0)) pa_nil)) pa_nil))) (pe_lst (pa_cons (pe_callTy call_str_int (by rfl) T.z_str (by decide +kernel) (pa_cons (pv 0) pa_nil)) pa_nil))))), ?_⟩
  refine ⟨_, rfl, _, _, rfl, rfl, _, rfl, ?_⟩
  refine ite2 (fun h1 => ?_) (fun h1 => ?_)
  · have h1 := of_decide_eq_true h1
    refine ⟨_, rfl, _, _, rfl, rfl, _, rfl, log_ok (by omega) (by omega), (by show 2 ≤ sizeLine; decide), fun p2 np2 => ?_⟩
    refine k p2 [[45], numW (0 - v)] _ (Same.new (Same.refl H) np2) np2 ?_ ((show WsOk 1 0 [[45]] by decide).app (numW_ws (n := 0 - v) (by omega) (by omega)) (by decide) (by decide))
    show upd H p2 _ p2 = _
    rw [upd_same]
    show some (HO.lst [V.str (PySem.Str.ofString "-"), V.str (PySem.Str.ofString (toString (0 - v)))]) = some (HO.lst [vS [45], vS (numW (0 - v))])
    rw [zm, vS_num]
  · have h1 := ndec h1
    refine ⟨_, rfl, _, rfl, log_ok (by omega) (by omega), (by show 1 ≤ sizeLine; decide), fun p3 np3 => ?_⟩
    refine k p3 [numW v] _ (Same.new (Same.refl H) np3) np3 ?_ ((numW_ws (n := v) (by omega) (by omega)).mono (by decide) (by decide))
    show upd H p3 _ p3 = _
    rw [upd_same]
    show some (HO.lst [V.str (PySem.Str.ofString (toString v))]) = some (HO.lst [vS (numW v)])
    rw [vS_num]
theorem S_app (a b : Wd) : S a ++ S b = S (a ++ b) := by
  show (⟨a.toArray ++ b.toArray⟩ : Str) = ⟨(a ++ b).toArray⟩
  simp
theorem ok_l_literal_words (T : Txt P K mg) : FnOk P w K mg base CX0 1 (He.fAd K ("_law_literal_words", none)) (fdO K ("_law_literal_words", none)) ["literal"] spLW := by
  refine T.F_l_literal_words.ok sc_l_literal_words (fun vs H Q E h => ?_) (fun cdv A outer s H vs Q E hr h => ?_)
  · obtain ⟨v, rfl, _⟩ := h
    rfl
  obtain ⟨v, rfl, hv1, hv2, k⟩ := h
  refine ⟨_, PSs.nox (pss_one (ps_ret (pe_op op_cat (pe_op op_rep (pe_lst (pa_cons pe_str pa_nil)) (pe_op op_modN (pe_callTy call_int1 (by rfl) T.z_int (by decide +kernel) (pa_cons (pv 0) pa_nil)) pe_int)) (pe_lst (pa_cons (pe_op op_add_str pe_str (pe_callTy call_str_int (by rfl) T.z_str (by decide +kernel) (pa_cons (pe_op op_fdivN (pv 0) pe_int) pa_nil))) pa_nil))))), ?_⟩
  refine ⟨(by show 1 ≤ sizeLine; decide), fun p1 np1 => ?_⟩
  have hm := fmod_lt (a := v) (b := 2) (by decide)
  have hd : v.fdiv 2 = v / 2 := Int.fdiv_eq_ediv_of_nonneg _ (by decide)
  refine ⟨_, rfl, .inl ⟨_, rfl, ?_⟩⟩
  refine ⟨_, _, rfl, rfl, (by show (2 : Int) ≠ 0; decide), _, _, _, rfl, rfl, upd_same, by omega, by omega, (by show 1 * _ ≤ sizeLine; exact Nat.le_trans (show _ ≤ 2 by omega) (by decide)), fun p2 np2 => ?_⟩
  obtain ⟨a1, a2, a3⟩ := numW_ok (n := v.fdiv 2) (by omega) (by omega)
  have lenE : (PySem.Str.ofString (toString (v.fdiv 2))).length ≤ 10 := toString_length_le (k := 10) (by omega) (by decide) (by omega)
  refine ⟨_, rfl, _, _, rfl, rfl, ⟨by decide, by decide⟩, _, rfl, log_ok (by omega) (by omega), _, _, rfl, rfl, (by show 1 + _ ≤ sizeLine; exact Nat.le_trans (show _ ≤ 11 by omega) (by decide)), (by show 1 ≤ sizeLine; decide), fun p3 np3 => ?_⟩
  have n23 : p2 ≠ p3 := ne_of_none upd_same np3
  refine ⟨_, _, _, _, rfl, rfl, (by rw [upd_ne n23]; exact upd_same), upd_same, ?_, fun p4 np4 => ?_⟩
  · rw [List.length_flatten, List.map_replicate, List.sum_replicate_nat]
    show _ * 1 + 1 ≤ sizeLine
    exact Nat.le_trans (show _ ≤ 3 by omega) (by decide)
  have s1 := Same.new (o := .lst [.str (PySem.Str.ofString "~")]) (Same.refl H) np1
  have s2 := Same.nw (o := .lst (List.replicate (v.fmod 2).toNat [V.str (PySem.Str.ofString "~")]).flatten) s1 np2
  have s3 := Same.nw (o := .lst [.str (PySem.Str.ofString "x" ++ PySem.Str.ofString (toString (v.fdiv 2)))]) s2 np3
  have s4 := Same.nw (o := .lst ((List.replicate (v.fmod 2).toNat [V.str (PySem.Str.ofString "~")]).flatten ++ [.str (PySem.Str.ofString "x" ++ PySem.Str.ofString (toString (v.fdiv 2)))])) s3 np4
  have last : WsOk 1 0 [120 :: numW (v.fdiv 2)] := by
    refine ⟨fun w hw => ?_, Nat.le_refl _, ?_⟩
    · rw [List.mem_singleton.mp hw]
      exact ⟨⟨by simp, by rw [List.length_cons]; omega⟩, by rw [List.count_cons, a3]; decide⟩
    · unfold sc
      rw [List.map_cons, List.count_cons, a3]
      decide
  have hv : V.str (PySem.Str.ofString "x" ++ PySem.Str.ofString (toString (v.fdiv 2))) = vS (120 :: numW (v.fdiv 2)) := by
    rw [zx, show PySem.Str.ofString (toString (v.fdiv 2)) = S (numW (v.fdiv 2)) from (S_lw _).symm, S_app]
    rfl
  have hm2 : (v.fmod 2).toNat = 0 ∨ (v.fmod 2).toNat = 1 := by omega
  rcases hm2 with e | e
  · refine k p4 [120 :: numW (v.fdiv 2)] _ s4 (Same.free s3 np4) ?_ (last.mono (by decide) (by decide))
    show upd _ p4 _ p4 = _
    rw [upd_same, e, hv]
    rfl
  · refine k p4 [[126], 120 :: numW (v.fdiv 2)] _ s4 (Same.free s3 np4) ?_ ((show WsOk 1 0 [[126]] by decide).app last (by decide) (by decide))
    show upd _ p4 _ p4 = _
    rw [upd_same, e, hv, zt]
    rfl
end
end K77
namespace K77
open PySem PySem.Spec PyProof.Rows L2
open C8 (pss_cut)
theorem DAs.get {H : Hp} : ∀ {xs : List V} {ds : List Da} {i : Nat} {x : V}, DAs H xs ds → xs[i]? = some x → ∃ d, ds[i]? = some d ∧ DA H x d
  | _, _, i, x, .nil, h => by simp at h
  | _, _, 0, x, .cons a b, h => by
    rw [List.getElem?_cons_zero] at h
    cases h
    exact ⟨_, List.getElem?_cons_zero, a⟩
  | _, _, i + 1, x, .cons a b, h => by
    rw [List.getElem?_cons_succ] at h
    obtain ⟨d, h1, h2⟩ := DAs.get b h
    exact ⟨d, by rw [List.getElem?_cons_succ]; exact h1, h2⟩
theorem DAs.getMap {α : Type} {f : α → Da} {l : List α} {H : Hp} {xs : List V} {i : Nat} {x : V} (h : DAs H xs (l.map f)) (e : xs[i]? = some x) : ∃ q, l[i]? = some q ∧ DA H x (f q) := by
  obtain ⟨d, h1, h2⟩ := h.get e
  obtain ⟨q, hq, rfl⟩ := map_get h1
  exact ⟨q, hq, h2⟩
theorem DA.tupI {H : Hp} {x : V} {ds : List Da} (h : DA H x (.tup ds)) : ∃ a xs, x = .ref a ∧ H a = some (.tup xs) ∧ DAs H xs ds := by
  cases h with
  | tup ha hs => exact ⟨_, _, rfl, ha, hs⟩
theorem DA.sumI {H : Hp} {x : V} {s : Tm × Int} (h : DA H x (dSum s)) : ∃ a y, x = .ref a ∧ H a = some (.tup [y, .int s.2]) ∧ DA H y (dTms s.1) := by
  obtain ⟨a, xs, rfl, ha, hs⟩ := h.tupI
  cases hs with
  | cons h1 h2 =>
    cases h2 with
    | cons h2 h3 =>
      cases h2; cases h3
      exact ⟨a, _, rfl, ha, h1⟩
section
variable {P : Program} {w : World} {K : PySem.W.Frag} {mg : Str → Option Value} {base : Heap}
theorem ok_l_terms_words (T : Txt P K mg) : FnOk P w K mg base CX0 2 (He.fAd K ("_law_terms_words", none)) (fdO K ("_law_terms_words", none)) ["terms"] spTW := by
  refine T.F_l_terms_words.ok sc_l_terms_words (fun vs H Q E h => ?_) (fun cdv A outer s H vs Q E hr h => ?_)
  · obtain ⟨x, t, rfl, _⟩ := h
    rfl
  obtain ⟨x, t, rfl, hx, ht, k⟩ := h
  obtain ⟨a, xs, rfl, ha, hxs⟩ := hx.tupI
  refine ⟨_, PSs.nox (pss_cons (ps_set (i := 1) sc_l_terms_words.nd rfl (Or.inl rfl) (pe_lst pa_nil))
    (pss_cons (ps_for PassesOwn.never rfl (pi_tup (pv 0)) (pg_tup rfl (pgs_cons (pg_name (i := 2) sc_l_terms_words.nd rfl (Or.inl rfl)) (pgs_cons (pg_name (i := 3) sc_l_terms_words.nd rfl (Or.inl rfl)) pgs_nil)))
      (pss_one (ps_set (i := 1) sc_l_terms_words.nd rfl (Or.inl rfl) (pe_op op_cat (pe_op op_cat (pv 1) (pe_lst (pa_cons pe_str (pa_cons (pe_callTy call_str_int (by rfl) T.z_str (by decide +kernel) (pa_cons (pv 3) pa_nil)) pa_nil)))) (pe_call (ok_l_literal_words T) hr rfl T.g__law_literal_words T.F_l_literal_words.kp (b_l_literal_words T) .nil pass0 (pa_cons (pv 2) pa_nil))))))
    (pss_one (ps_ret (pe_ifExp (pt_cmpR (op_neNil hr.units) (pv 1) (pe_lst pa_nil) (nomark _)) (pe_slice sl_list (pv 1) (po_some pe_int) po_none) (pe_lst (pa_cons pe_str pa_nil))))))), ?_⟩
  refine ⟨(by show 0 ≤ sizeLine; decide), fun p1 np1 => ?_⟩
  refine ⟨_, rfl, a, rfl, ⟨_, SqT.of (by rw [upd_ne (ne_of_none ha np1)]; exact ha)⟩, for_tup (xs := xs) (fun i σ' H' => ∃ (ws : List Wd) (p : Addr) (z1 z2 : Option V), σ' = [some (.ref a), some (.ref p), z1, z2] ∧ LW H' p ws ∧ WsOk (4 * i) 0 ws ∧ Same H H')
    ⟨[], p1, none, none, rfl, upd_same, by decide, Same.new (Same.refl H) np1⟩ ?_ ?_ ?_⟩
  · rintro i σ' H' hi ⟨ws, p, z1, z2, rfl, hp, hw, sm⟩
    exact SqT.of (sm _ _ ha)
  · rintro i y σ' H' hi ⟨ws, p, z1, z2, rfl, hp, hw, sm⟩
    obtain ⟨q, hq, hy⟩ := (hxs.mono (Same.tups sm)).getMap hi
    obtain ⟨b, rfl, hb⟩ := hy.tm
    obtain ⟨q1, q2, q3, q4⟩ := ht.2 q (List.mem_of_getElem? hq)
    have hil : i < t.length := (List.getElem?_eq_some_iff.mp hq).1
    have htl := ht.1
    refine ⟨b, _, rfl, SqT.of hb, rfl, _, _, rfl, _, _, rfl, rfl, ?_⟩
    refine ⟨_, rfl, _, rfl, _, rfl, log_ok q3 (by omega), (by show 2 ≤ sizeLine; decide), fun p2 np2 => ?_⟩
    have s2 := Same.nw (o := .lst [.str (PySem.Str.ofString "+"), .str (PySem.Str.ofString (toString q.2))]) sm np2
    have pp2 : p ≠ p2 := ne_of_none hp np2
    refine ⟨_, _, _, _, rfl, rfl, (by rw [upd_ne pp2]; exact hp), upd_same, (by rw [List.length_map]; have := hw.2.1; exact Nat.le_trans (show ws.length + 2 ≤ 100 by omega) (by decide)), fun p3 np3 => ?_⟩
    have s3 := Same.nw (o := .lst (ws.map vS ++ [.str (PySem.Str.ofString "+"), .str (PySem.Str.ofString (toString q.2))])) s2 np3
    refine ⟨_, rfl, ?_⟩
    refine ⟨q.1, rfl, q1, by omega, fun p5 ws5 H5 sm5 np5 hp5 hw5 => ?_⟩
    have e3 : V.str (PySem.Str.ofString "+") = vS [43] := by rw [zp]
    have hp3 : H5 p3 = some (.lst ((ws ++ [[43], numW q.2]).map vS)) := by
      rw [List.map_append]
      refine (sm5 p3 _ upd_same).trans ?_
      rw [e3, vS_num]
      rfl
    have hw3 : WsOk (4 * i + 2) 0 (ws ++ [[43], numW q.2]) := hw.app ((show WsOk 1 0 [[43]] by decide).app (numW_ws q3 (by omega)) (Nat.le_refl _) (Nat.le_refl _)) (Nat.le_refl _) (Nat.le_refl _)
    refine ⟨_, _, _, _, rfl, rfl, hp3, hp5, LW.len hw3.2.1 hw5.2.1 (by omega), fun p6 np6 => ?_⟩
    have s5 : Same H H5 := fun b o e => sm5 b o (s3 b o e)
    refine ⟨ws ++ [[43], numW q.2] ++ ws5, p6, _, _, rfl, ?_, hw3.app hw5 (by omega) (by omega), Same.nw s5 np6⟩
    show upd _ p6 _ p6 = _
    rw [upd_same]
    simp only [List.map_append]
  · rintro σ' H' ⟨ws, p, z1, z2, rfl, hp, hw, sm⟩
    have hxl := hxs.length
    rw [List.length_map] at hxl
    have htl := ht.1
    have hw : WsOk 48 0 ws := hw.mono (by omega) (Nat.le_refl _)
    refine ⟨_, rfl, (by show 0 ≤ sizeLine; decide), fun p5 np5 => ?_⟩
    have pp5 : p ≠ p5 := ne_of_none hp np5
    have s5 := Same.nw (o := .lst []) sm np5
    refine ⟨_, _, _, rfl, rfl, SqL.of (by rw [upd_ne pp5]; exact hp), SqL.of upd_same, _, rfl, ?_⟩
    refine ite2 (fun h6 => ?_) (fun h6 => ?_)
    · refine ⟨_, rfl, _, rfl, _, _, rfl, SqL.of (by rw [upd_ne pp5]; exact hp), fun p7 np7 => ?_⟩
      refine k p7 (ws.drop 1) _ (Same.nw s5 np7) (Same.free s5 np7) ?_ (hw.drop 1)
      show upd _ p7 _ p7 = _
      rw [upd_same, show (1 : Int) = ((1 : Nat) : Int) from rfl, cutV_from, List.map_drop]
    · refine ⟨(by show 1 ≤ sizeLine; decide), fun p8 np8 => ?_⟩
      refine k p8 [[48]] _ (Same.nw s5 np8) (Same.free s5 np8) ?_ (by decide)
      show upd _ p8 _ p8 = _
      rw [upd_same, z0]
      rfl
theorem DA.pbI {H : Hp} {x : V} {pb : Pb} (h : DA H x (dPb pb)) : ∃ a s xs xp, x = .ref a ∧ H a = some (.tup [.int pb.1, .ref s, xp]) ∧ H s = some (.tup xs) ∧ DAs H xs (pb.2.1.map dSum) ∧ DA H xp (dPr pb.2.2) := by
  obtain ⟨a, xs, rfl, ha, hs⟩ := h.tupI
  cases hs with
  | cons h1 h2 =>
    cases h2 with
    | cons h2 h3 =>
      cases h3 with
      | cons h3 h4 =>
        cases h1; cases h4
        obtain ⟨s, ys, rfl, hs, hys⟩ := h2.tupI
        exact ⟨a, s, ys, _, rfl, ha, hs, hys, h3⟩
theorem ok_l_problem_words (T : Txt P K mg) : FnOk P w K mg base CX0 3 (He.fAd K ("_law_problem_words", none)) (fdO K ("_law_problem_words", none)) ["problem"] spPW := by
  refine T.F_l_problem_words.ok sc_l_problem_words (fun vs H Q E h => ?_) (fun cdv A outer s H vs Q E hr h => ?_)
  · obtain ⟨x, pb, rfl, _⟩ := h
    rfl
  obtain ⟨x, pb, rfl, hx, hpb, k⟩ := h
  obtain ⟨a, sa, xs, xp, rfl, ha, hsa, hxs, hxp⟩ := hx.pbI
  obtain ⟨o1, o2, o3, o4, o5⟩ := hpb
  refine ⟨_, PSs.nox (pss_cons (ps_set (i := 1) sc_l_problem_words.nd rfl (Or.inl rfl) (pe_lst (pa_cons pe_str (pa_cons (pe_callTy call_str_int (by rfl) T.z_str (by decide +kernel) (pa_cons (pe_ix ix_tup (pv 0) pe_int (fun _ _ => rfl)) pa_nil)) pa_nil))))
    (pss_cut (ps_if (pt_cmpR op_notN (pe_ix ix_tup (pv 0) pe_int (fun _ _ => rfl)) pe_non (nomark _))
      (pss_one (ps_set (i := 1) sc_l_problem_words.nd rfl (Or.inl rfl) (pe_op op_cat (pe_op op_cat (pe_op op_cat (pe_op op_cat (pv 1) (pe_lst (pa_cons pe_str pa_nil))) (pe_call (ok_l_terms_words T) hr rfl T.g__law_terms_words T.F_l_terms_words.kp (b_l_terms_words T) .nil pass0 (pa_cons (pe_ix ix_tup (pe_ix ix_tup (pv 0) pe_int (fun _ _ => rfl)) pe_int (fun _ _ => rfl)) pa_nil))) (pe_lst (pa_cons pe_str pa_nil))) (pe_call (ok_l_number_words T) (hr.mono (by decide)) rfl T.g__law_number_words T.F_l_number_words.kp (b_l_number_words T) .nil pass0 (pa_cons (pe_ix ix_tup (pe_ix ix_tup (pv 0) pe_int (fun _ _ => rfl)) pe_int (fun _ _ => rfl)) pa_nil)))))
      pss_nil)
    (pss_cons (ps_for PassesOwn.never rfl (pi_tup (pe_ix ix_tup (pv 0) pe_int (fun _ _ => rfl))) (pg_tup rfl (pgs_cons (pg_name (i := 2) sc_l_problem_words.nd rfl (Or.inl rfl)) (pgs_cons (pg_name (i := 3) sc_l_problem_words.nd rfl (Or.inl rfl)) pgs_nil)))
      (pss_one (ps_set (i := 1) sc_l_problem_words.nd rfl (Or.inl rfl) (pe_op op_cat (pe_op op_cat (pe_op op_cat (pe_op op_cat (pv 1) (pe_lst (pa_cons pe_str pa_nil))) (pe_call (ok_l_terms_words T) hr rfl T.g__law_terms_words T.F_l_terms_words.kp (b_l_terms_words T) .nil pass0 (pa_cons (pv 2) pa_nil))) (pe_lst (pa_cons pe_str (pa_cons pe_str pa_nil)))) (pe_call (ok_l_number_words T) (hr.mono (by decide)) rfl T.g__law_number_words T.F_l_number_words.kp (b_l_number_words T) .nil pass0 (pa_cons (pv 3) pa_nil))))))
    (pss_one (ps_ret (pv 1)))))), ?_⟩
  refine ⟨_, rfl, _, _, _, _, rfl, rfl, SqT.of ha, atI_nat (j := 0) rfl, _, rfl, log_ok (by omega) (by omega), (by show 2 ≤ sizeLine; decide), fun p1 np1 => ?_⟩
  have s1 := Same.new (o := .lst [.str (PySem.Str.ofString "problem"), .str (PySem.Str.ofString (toString pb.1))]) (Same.refl H) np1
  have hp1 : LW (upd H p1 (.lst [.str (PySem.Str.ofString "problem"), .str (PySem.Str.ofString (toString pb.1))])) p1 [sProblem, numW pb.1] := by
    show upd _ p1 _ p1 = _
    rw [upd_same, zproblem, vS_num]
    rfl
  have hw1 : WsOk 2 0 [sProblem, numW pb.1] := (show WsOk 1 0 [sProblem] by decide).app (numW_ws (n := pb.1) (by omega) (by omega)) (by decide) (by decide)
  have LEN : ∀ {u v : List Wd} {N N' M M' : Nat}, WsOk N M u → WsOk N' M' v → N + N' ≤ 100000 → (u.map vS).length + (v.map vS).length ≤ sizeLine := fun h1 h2 h => LW.len h1.2.1 h2.2.1 h
  refine ⟨fun σ' H' => ∃ (ws : List Wd) (p : Addr), σ' = [some (.ref a), some (.ref p), none, none] ∧ LW H' p ws ∧ WsOk 60 0 ws ∧ Same H H' ∧ H p = none, ?_, ?_⟩
  · refine ⟨_, rfl, _, _, _, _, rfl, rfl, SqT.of (s1 _ _ ha), atI_nat (j := 2) rfl, rfl, _, rfl, ?_⟩
    cases hpr : pb.2.2 with
    | none =>
      rw [hpr] at hxp
      cases hxp
      refine iteF' (by decide) ?_
      exact ⟨_, p1, rfl, hp1, hw1.mono (by decide) (by decide), s1, np1⟩
    | some q =>
      rw [hpr] at hxp
      obtain ⟨b, y, rfl, hb, hy⟩ := DA.sumI hxp
      obtain ⟨q1, q2, q3⟩ := o5 q hpr
      refine iteT' (by rw [decide_eq_false (fun z => by cases z)]; rfl) ?_
      refine ⟨_, rfl, (by show 1 ≤ sizeLine; decide), fun p3 np3 => ?_⟩
      have s3 := Same.nw (o := .lst [.str (PySem.Str.ofString "price")]) s1 np3
      have p13 : p1 ≠ p3 := ne_of_none upd_same np3
      have hp3 : LW (upd (upd H p1 (.lst [.str (PySem.Str.ofString "problem"), .str (PySem.Str.ofString (toString pb.1))])) p3 (.lst [.str (PySem.Str.ofString "price")])) p3 [sPrice] := by
        show upd _ p3 _ p3 = _
        rw [upd_same, zprice]
        rfl
      have hw3 : WsOk 1 0 [sPrice] := by decide
      generalize hH3 : (upd (upd H p1 (.lst [.str (PySem.Str.ofString "problem"), .str (PySem.Str.ofString (toString pb.1))])) p3 (.lst [.str (PySem.Str.ofString "price")])) = H3 at *
      have hp13 : LW H3 p1 [sProblem, numW pb.1] := by rw [← hH3]; show upd _ p3 _ p1 = _; rw [upd_ne p13]; exact hp1
      refine ⟨_, _, _, _, rfl, rfl, hp13, hp3, LEN hw1 hw3 (by decide), fun p4 np4 => ?_⟩
      have s4 := Same.nw (o := .lst (List.map vS [sProblem, numW pb.1] ++ List.map vS [sPrice])) s3 np4
      have hp4 : LW (upd H3 p4 (.lst (List.map vS [sProblem, numW pb.1] ++ List.map vS [sPrice]))) p4 ([sProblem, numW pb.1] ++ [sPrice]) := by
        show upd _ p4 _ p4 = _
        rw [upd_same, List.map_append]
      have hw4 : WsOk 3 0 ([sProblem, numW pb.1] ++ [sPrice]) := hw1.app hw3 (by decide) (by decide)
      refine ⟨_, rfl, _, _, _, _, rfl, rfl, SqT.of (s4 _ _ ha), atI_nat (j := 2) rfl, _, _, _, _, rfl, rfl, SqT.of (s4 _ _ hb), atI_nat (j := 0) rfl, ?_⟩
      refine ⟨_, q.1, rfl, hy.mono (Same.tups s4), q1, fun p5 ws5 H5 sm5 np5 hp5 hw5 => ?_⟩
      have s5 : Same H H5 := fun b o e => sm5 b o (s4 b o e)
      refine ⟨_, _, _, _, rfl, rfl, sm5 _ _ hp4, hp5, LEN hw4 hw5 (by decide), fun p6 np6 => ?_⟩
      have s6 := Same.nw (o := .lst (List.map vS ([sProblem, numW pb.1] ++ [sPrice]) ++ List.map vS ws5)) s5 np6
      have hw6 : WsOk 51 0 ([sProblem, numW pb.1] ++ [sPrice] ++ ws5) := hw4.app hw5 (by decide) (by decide)
      refine ⟨(by show 1 ≤ sizeLine; decide), fun p7 np7 => ?_⟩
      have p67 : p6 ≠ p7 := ne_of_none upd_same np7
      have s7 := Same.nw (o := .lst [.str (PySem.Str.ofString "from")]) s6 np7
      have hp7 : LW (upd (upd H5 p6 (.lst (List.map vS ([sProblem, numW pb.1] ++ [sPrice]) ++ List.map vS ws5))) p7 (.lst [.str (PySem.Str.ofString "from")])) p7 [sFrom] := by
        show upd _ p7 _ p7 = _
        rw [upd_same, zfrom]
        rfl
      have hp67 : LW (upd (upd H5 p6 (.lst (List.map vS ([sProblem, numW pb.1] ++ [sPrice]) ++ List.map vS ws5))) p7 (.lst [.str (PySem.Str.ofString "from")])) p6 ([sProblem, numW pb.1] ++ [sPrice] ++ ws5) := by
        show upd _ p7 _ p6 = _
        rw [upd_ne p67, upd_same]
        simp only [List.map_append]
      have hw7 : WsOk 1 0 [sFrom] := by decide
      refine ⟨_, _, _, _, rfl, rfl, hp67, hp7, LEN hw6 hw7 (by decide), fun p8 np8 => ?_⟩
      generalize hH7 : (upd (upd H5 p6 (.lst (List.map vS ([sProblem, numW pb.1] ++ [sPrice]) ++ List.map vS ws5))) p7 (.lst [.str (PySem.Str.ofString "from")])) = H7 at *
      have s8 := Same.nw (o := .lst (List.map vS ([sProblem, numW pb.1] ++ [sPrice] ++ ws5) ++ List.map vS [sFrom])) s7 np8
      have hp8 : LW (upd H7 p8 (.lst (List.map vS ([sProblem, numW pb.1] ++ [sPrice] ++ ws5) ++ List.map vS [sFrom]))) p8 ([sProblem, numW pb.1] ++ [sPrice] ++ ws5 ++ [sFrom]) := by
        show upd _ p8 _ p8 = _
        rw [upd_same]
        simp only [List.map_append]
      have hw8 : WsOk 52 0 ([sProblem, numW pb.1] ++ [sPrice] ++ ws5 ++ [sFrom]) := hw6.app hw7 (by decide) (by decide)
      refine ⟨_, rfl, _, _, _, _, rfl, rfl, SqT.of (s8 _ _ ha), atI_nat (j := 2) rfl, _, _, _, _, rfl, rfl, SqT.of (s8 _ _ hb), atI_nat (j := 1) rfl, ?_⟩
      refine ⟨q.2, rfl, q2, q3, fun p9 ws9 H9 sm9 np9 hp9 hw9 => ?_⟩
      have s9 : Same H H9 := fun b o e => sm9 b o (s8 b o e)
      refine ⟨_, _, _, _, rfl, rfl, sm9 _ _ hp8, hp9, LEN hw8 hw9 (by decide), fun p10 np10 => ?_⟩
      refine ⟨[sProblem, numW pb.1] ++ [sPrice] ++ ws5 ++ [sFrom] ++ ws9, p10, rfl, ?_, hw8.app hw9 (by decide) (by decide), Same.nw s9 np10, Same.free s9 np10⟩
      show upd _ p10 _ p10 = _
      rw [upd_same]
      simp only [List.map_append]
  · rintro σ' H' ⟨ws0, p0, rfl, hp0, hw0, sm0, np0⟩
    refine ⟨_, rfl, _, _, _, _, rfl, rfl, SqT.of (sm0 _ _ ha), atI_nat (j := 1) rfl, sa, rfl, ⟨_, SqT.of (sm0 _ _ hsa)⟩, for_tup (xs := xs) (fun i σ' H' => ∃ (ws : List Wd) (p : Addr) (z1 z2 : Option V), σ' = [some (.ref a), some (.ref p), z1, z2] ∧ LW H' p ws ∧ WsOk (60 + 53 * i) i ws ∧ Same H H' ∧ H p = none)
      ⟨ws0, p0, none, none, rfl, hp0, hw0, sm0, np0⟩ ?_ ?_ ?_⟩
    · rintro i σ' H' hi ⟨ws, p, z1, z2, rfl, hp, hw, sm, np⟩
      exact SqT.of (sm _ _ hsa)
    · rintro i y σ' H' hi ⟨ws, p, z1, z2, rfl, hp, hw, sm, np⟩
      obtain ⟨q, hq, hy⟩ := (hxs.mono (Same.tups sm)).getMap hi
      obtain ⟨b, z, rfl, hb, hz⟩ := DA.sumI hy
      obtain ⟨q1, q2, q3⟩ := o4 q (List.mem_of_getElem? hq)
      have hil : i < pb.2.1.length := (List.getElem?_eq_some_iff.mp hq).1
      refine ⟨b, _, rfl, SqT.of hb, rfl, _, _, rfl, _, _, rfl, rfl, ?_⟩
      refine ⟨_, rfl, (by show 1 ≤ sizeLine; decide), fun p3 np3 => ?_⟩
      have s3 := Same.nw (o := .lst [.str (PySem.Str.ofString ";")]) sm np3
      have pp3 : p ≠ p3 := ne_of_none hp np3
      have hp3 : LW (upd H' p3 (.lst [.str (PySem.Str.ofString ";")])) p3 [[59]] := by
        show upd _ p3 _ p3 = _
        rw [upd_same, zsemi]
        rfl
      have hw3 : WsOk 1 1 [[59]] := by decide
      have hpp3 : LW (upd H' p3 (.lst [.str (PySem.Str.ofString ";")])) p ws := by
        show upd _ p3 _ p = _
        rw [upd_ne pp3]
        exact hp
      have t3 : Same H' (upd H' p3 (.lst [.str (PySem.Str.ofString ";")])) := Same.new (Same.refl H') np3
      generalize (upd H' p3 (.lst [.str (PySem.Str.ofString ";")])) = H3 at *
      refine ⟨_, _, _, _, rfl, rfl, hpp3, hp3, LEN hw hw3 (by omega), fun p4 np4 => ?_⟩
      have s4 := Same.nw (o := .lst (List.map vS ws ++ List.map vS [[59]])) s3 np4
      have t4 := Same.nw (o := .lst (List.map vS ws ++ List.map vS [[59]])) t3 np4
      have hp4 : LW (upd H3 p4 (.lst (List.map vS ws ++ List.map vS [[59]]))) p4 (ws ++ [[59]]) := by
        show upd _ p4 _ p4 = _
        rw [upd_same, List.map_append]
      have hw4 : WsOk (60 + 53 * i + 1) (i + 1) (ws ++ [[59]]) := hw.app hw3 (Nat.le_refl _) (Nat.le_refl _)
      generalize (upd H3 p4 (.lst (List.map vS ws ++ List.map vS [[59]]))) = H4 at *
      refine ⟨_, rfl, ?_⟩
      refine ⟨_, q.1, rfl, hz.mono (Same.tups t4), q1, fun p5 ws5 H5 sm5 np5 hp5 hw5 => ?_⟩
      have s5 : Same H H5 := fun b o e => sm5 b o (s4 b o e)
      refine ⟨_, _, _, _, rfl, rfl, sm5 _ _ hp4, hp5, LEN hw4 hw5 (by omega), fun p6 np6 => ?_⟩
      have s6 := Same.nw (o := .lst (List.map vS (ws ++ [[59]]) ++ List.map vS ws5)) s5 np6
      have hw6 : WsOk (60 + 53 * i + 49) (i + 1) (ws ++ [[59]] ++ ws5) := hw4.app hw5 (by omega) (by omega)
      have hp6 : LW (upd H5 p6 (.lst (List.map vS (ws ++ [[59]]) ++ List.map vS ws5))) p6 (ws ++ [[59]] ++ ws5) := by
        show upd _ p6 _ p6 = _
        rw [upd_same]
        simp only [List.map_append]
      generalize (upd H5 p6 (.lst (List.map vS (ws ++ [[59]]) ++ List.map vS ws5))) = H6 at *
      refine ⟨(by show 2 ≤ sizeLine; decide), fun p7 np7 => ?_⟩
      have p67 : p6 ≠ p7 := ne_of_none hp6 np7
      have s7 := Same.nw (o := .lst [.str (PySem.Str.ofString ">"), .str (PySem.Str.ofString "=")]) s6 np7
      have hp7 : LW (upd H6 p7 (.lst [.str (PySem.Str.ofString ">"), .str (PySem.Str.ofString "=")])) p7 [[62], [61]] := by
        show upd _ p7 _ p7 = _
        rw [upd_same, zgt, zeq]
        rfl
      have hp67 : LW (upd H6 p7 (.lst [.str (PySem.Str.ofString ">"), .str (PySem.Str.ofString "=")])) p6 (ws ++ [[59]] ++ ws5) := by
        show upd _ p7 _ p6 = _
        rw [upd_ne p67]
        exact hp6
      have hw7 : WsOk 2 0 [[62], [61]] := by decide
      generalize (upd H6 p7 (.lst [.str (PySem.Str.ofString ">"), .str (PySem.Str.ofString "=")])) = H7 at *
      refine ⟨_, _, _, _, rfl, rfl, hp67, hp7, LEN hw6 hw7 (by omega), fun p8 np8 => ?_⟩
      have s8 := Same.nw (o := .lst (List.map vS (ws ++ [[59]] ++ ws5) ++ List.map vS [[62], [61]])) s7 np8
      have hp8 : LW (upd H7 p8 (.lst (List.map vS (ws ++ [[59]] ++ ws5) ++ List.map vS [[62], [61]]))) p8 (ws ++ [[59]] ++ ws5 ++ [[62], [61]]) := by
        show upd _ p8 _ p8 = _
        rw [upd_same]
        simp only [List.map_append]
      have hw8 : WsOk (60 + 53 * i + 51) (i + 1) (ws ++ [[59]] ++ ws5 ++ [[62], [61]]) := hw6.app hw7 (by omega) (by omega)
      generalize (upd H7 p8 (.lst (List.map vS (ws ++ [[59]] ++ ws5) ++ List.map vS [[62], [61]]))) = H8 at *
      refine ⟨_, rfl, ?_⟩
      refine ⟨q.2, rfl, q2, q3, fun p9 ws9 H9 sm9 np9 hp9 hw9 => ?_⟩
      have s9 : Same H H9 := fun b o e => sm9 b o (s8 b o e)
      refine ⟨_, _, _, _, rfl, rfl, sm9 _ _ hp8, hp9, LEN hw8 hw9 (by omega), fun p10 np10 => ?_⟩
      refine ⟨ws ++ [[59]] ++ ws5 ++ [[62], [61]] ++ ws9, p10, _, _, rfl, ?_, hw8.app hw9 (by omega) (by omega), Same.nw s9 np10, Same.free s9 np10⟩
      show upd _ p10 _ p10 = _
      rw [upd_same]
      simp only [List.map_append]
    · rintro σ' H' ⟨ws, p, z1, z2, rfl, hp, hw, sm, np⟩
      have hxl := hxs.length
      rw [List.length_map] at hxl
      refine ⟨_, rfl, ?_⟩
      exact k p ws H' sm np hp (hw.mono (by omega) (by omega))
end
end K77
namespace K77
open PySem PySem.Spec PyProof.Rows L2
open C8 (pss_cut)
theorem pg_two {X : Cx} {x y : Str} {i j : Nat} {p1 p2 pos : Pos} {kk : Nat} (hc : X.calm = true) (hN : X.N.Nodup) (hi : X.N[i]? = some x) (hj : X.N[j]? = some y) (hx : Loc X.env.scope x) (hy : Loc X.env.scope y) (hf : X.fn x = true ∨ X.env.scope.names.lookup x = some .local) (hg : X.fn y = true ∨ X.env.scope.names.lookup y = some .local) :
    PG X (.Tuple [.Name x p1, .Name y p2] kk pos) (gTup X.K 2 (gCons (gName i) (gCons (gName j) gNil))) :=
  pg_tup hc (pgs_cons (pg_name hN hi hx hf) (pgs_cons (pg_name hN hj hy hg) pgs_nil))
/-- the deck stands, and all that stood before -/
structure Dk (d c : Addr) (H0 H : Hp) : Prop where
  dk : DeckAt d c H
  bt : But d c H0 H
section
variable {d c p : Addr} {H0 H H' : Hp} {o : HO}
theorem DeckAt.ref (D : DeckAt d c H) (np : H p = none) : p ≠ d ∧ p ≠ c := by
  obtain ⟨_, ⟨a, b, h1⟩, ⟨ns, h2⟩⟩ := D
  exact ⟨(ne_of_none h1 np).symm, (ne_of_none h2 np).symm⟩
theorem Dk.refl (D : DeckAt d c H) : Dk d c H H := ⟨D, But.refl d c H⟩
theorem Dk.new (D : Dk d c H0 H) (np : H p = none) : Dk d c H0 (upd H p o) := ⟨D.dk.put np, But.new D.bt (But.free D.bt (D.dk.ref np).1 (D.dk.ref np).2 np)⟩
theorem Dk.free (D : Dk d c H0 H) (np : H p = none) : H0 p = none := But.free D.bt (D.dk.ref np).1 (D.dk.ref np).2 np
theorem Dk.step (D : Dk d c H0 H) (k : DeckAt d c H') (b : But d c H H') : Dk d c H0 H' := ⟨k, But.trans D.bt b⟩
theorem Dk.same (D : Dk d c H0 H) (s : Same H H') : Dk d c H0 H' := ⟨D.dk.same s, But.trans D.bt (Same.but s)⟩
theorem DeckAt.set (D : DeckAt d c H) (h1 : p ≠ d) (h2 : p ≠ c) : DeckAt d c (upd H p o) := by
  obtain ⟨ne, ⟨a, b, e1⟩, ⟨ns, e2⟩⟩ := D
  exact ⟨ne, ⟨a, b, by rw [upd_ne h1.symm]; exact e1⟩, ⟨ns, by rw [upd_ne h2.symm]; exact e2⟩⟩
theorem Dk.set (D : Dk d c H0 H) (np : H0 p = none) (h1 : p ≠ d) (h2 : p ≠ c) : Dk d c H0 (upd H p o) := ⟨D.dk.set h1 h2, But.new D.bt np⟩
end
def spLSum : Sp := fun vs H Q _ => ∃ (d c : Addr) (many most : Int), vs = [.ref d, .int many, .int 4, .int most] ∧ DeckAt d c H ∧ 1 ≤ many ∧ many ≤ 12 ∧ 1 ≤ most ∧ most ≤ 9 ∧
  ∀ x s H', DA H' x (dSum s) → SmOk s → DeckAt d c H' → But d c H H' → Q x H'
theorem sum_bound : ∀ {l : List Int} {N : Nat}, l.length ≤ N → (∀ z ∈ l, 0 ≤ z ∧ z ≤ 9) → 0 ≤ l.sum ∧ l.sum ≤ 9 * N
  | [], N, _, _ => ⟨Int.le_refl _, by show (0 : Int) ≤ _; omega⟩
  | z :: r, N, h, hz => by
    rw [List.length_cons] at h
    obtain ⟨a, b⟩ := hz z (List.mem_cons_self ..)
    obtain ⟨e, f⟩ := sum_bound (l := r) (N := N - 1) (by omega) (fun y hy => hz y (List.mem_cons_of_mem _ hy))
    rw [List.sum_cons]
    omega
section
variable {P : Program} {w : World} {K : PySem.W.Frag} {mg : Str → Option Value} {base : Heap}
theorem ok_l_sum (T : Txt P K mg) : FnOk P w K mg base CX0 2 (He.fAd K ("_law_sum", none)) (fdO K ("_law_sum", none)) ["deck", "many", "size", "most"] spLSum := by
  refine T.F_l_sum.ok sc_l_sum (fun vs H Q E h => ?_) (fun cdv A outer s H vs Q E hr h => ?_)
  · obtain ⟨d, c, many, most, rfl, _⟩ := h
    rfl
  obtain ⟨d, c, many, most, rfl, D0, m1, m2, t1, t2, k⟩ := h
  refine ⟨_, PSs.nox (pss_cons (ps_par (i := 4) (j := 5) (by rfl) sc_l_sum.nd rfl rfl (by decide) rfl rfl (pa_cons (pe_call (ok_l_pick T) hr rfl T.g__law_pick T.F_l_pick.kp (b_l_pick T) .nil pass0 (pa_cons (pv 0) (pa_cons pe_int pa_nil))) (pa_cons (pe_lst pa_nil) pa_nil)) (by rfl))
    (pss_cons (ps_for PassesOwn.never rfl (pi_range1 rfl T.z_range (pa_cons (pv 1) pa_nil)) (pg_name (i := 6) sc_l_sum.nd rfl (Or.inl rfl))
      (pss_one (ps_if (PW.pt (pw_and (pt_cmpR op_lt (pe_callB call_len_seq (by rfl) T.z_len (by decide +kernel) (pa_cons (pv 5) pa_nil)) (pv 2) (nomark _)) (pw_and1 (pt_cmpR op_gt (pe_call (ok_l_pick T) hr rfl T.g__law_pick T.F_l_pick.kp (b_l_pick T) .nil pass0 (pa_cons (pv 0) (pa_cons pe_int pa_nil))) pe_int (nomark _)))))
        (pss_one (ps_expr (pe_bm PySem.F.plainAttrs_list PySem.F.slot_list_append PySem.F.type_list_append mt_append (pv 5) (pa_cons (pe_tup (pa_cons (pe_op op_add (pe_op op_mul pe_int (pv 6)) (pe_call (ok_l_pick T) hr rfl T.g__law_pick T.F_l_pick.kp (b_l_pick T) .nil pass0 (pa_cons (pv 0) (pa_cons pe_int pa_nil)))) (pa_cons (pe_op op_add pe_int (pe_call (ok_l_pick T) hr rfl T.g__law_pick T.F_l_pick.kp (b_l_pick T) .nil pass0 (pa_cons (pv 0) (pa_cons (pv 3) pa_nil)))) pa_nil))) pa_nil))))
        pss_nil)))
    (pss_cons (ps_set (i := 7) sc_l_sum.nd rfl (Or.inl rfl) (pe_callB (cr_sum rfl) (by rfl) T.z_sum (by decide +kernel) (pa_cons (pe_lc (own := [("literal", 8), ("weight", 9)]) (g := gTup K 2 (gCons (gName 8) (gCons (gName 9) gNil))) (by rfl) sc_l_sum.nd (pi_list (pv 5)) (blkOk_by (own := [("literal", 8), ("weight", 9)]) (N := N_l_sum) (sc := defScope s_l_sum) (by decide +kernel)) (fun _ _ _ _ _ => by refine pg_two (i := 8) (j := 9) ?_ ?_ ?_ ?_ ?_ ?_ ?_ ?_ <;> first | exact sc_l_sum.nd | rfl | exact Or.inl rfl | exact Or.inr rfl) (fun _ _ _ _ _ => pts_nil) (fun _ _ _ _ _ => (pv 9))) pa_nil)))
    (pss_cons (ps_if (pt_cmpR op_eq (pv 4) pe_int (nomark _))
      (pss_one (ps_ret (pe_tup (pa_cons (pe_callTy call_tuple_of (by rfl) T.z_tuple (by decide +kernel) (pa_cons (pv 5) pa_nil)) (pa_cons pe_int pa_nil)))))
      pss_nil)
    (pss_cons (ps_if (pt_cmpR op_eq (pv 4) pe_int (nomark _))
      (pss_one (ps_ret (pe_tup (pa_cons (pe_callTy call_tuple_of (by rfl) T.z_tuple (by decide +kernel) (pa_cons (pv 5) pa_nil)) (pa_cons (pe_op op_add pe_int (pe_call (ok_l_pick T) hr rfl T.g__law_pick T.F_l_pick.kp (b_l_pick T) .nil pass0 (pa_cons (pv 0) (pa_cons (pe_op op_add (pv 7) pe_int) pa_nil)))) pa_nil)))))
      pss_nil)
    (pss_one (ps_ret (pe_tup (pa_cons (pe_callTy call_tuple_of (by rfl) T.z_tuple (by decide +kernel) (pa_cons (pv 5) pa_nil)) (pa_cons (pe_ifExp (pt_cmpR op_eq (pv 4) pe_int (nomark _)) (pe_op op_fdivN (pv 7) pe_int) (pe_op op_sub (pv 7) (pe_call (ok_l_pick T) hr rfl T.g__law_pick T.F_l_pick.kp (b_l_pick T) .nil pass0 (pa_cons (pv 0) (pa_cons pe_int pa_nil))))) pa_nil)))))))))), ?_⟩
  refine ⟨_, rfl, ?_⟩
  refine ⟨d, c, 4, rfl, D0, by decide, by decide, fun kind H1 kd1 kd2 D1 b1 => ?_⟩
  have K1 : Dk d c H H1 := ⟨D1, b1⟩
  refine ⟨(by show 0 ≤ sizeLine; decide), fun p1 np1 => ?_⟩
  have np10 := K1.free np1
  have hp1 := K1.dk.ref np1
  refine ⟨_, _, rfl, ?_⟩
  refine ⟨_, rfl, many, rfl, by omega, by omega, for_range (lo := 0) (n := many.toNat) (fun i σ' H' => ∃ (tm : Tm) (ys : List V) (z : Option V), σ' = [some (.ref d), some (.int many), some (.int 4), some (.int most), some (.int kind), some (.ref p1), z, none, none, none] ∧ Dk d c H H' ∧ H' p1 = some (.lst ys) ∧
    DAs H' ys (tm.map dTm) ∧ tm.length ≤ 4 ∧ ∀ q ∈ tm, 0 ≤ q.1 ∧ q.1 ≤ 1000 ∧ 0 ≤ q.2 ∧ q.2 ≤ 9) ⟨[], [], none, rfl, K1.new np1, upd_same, .nil, Nat.zero_le _, fun q hq => by cases hq⟩ ?_ ?_⟩
  · rintro i σ' H' hi ⟨tm, ys, z, rfl, K2, hl, hys, hlen, hq⟩
    have hyl := hys.length
    rw [List.length_map] at hyl
    refine ⟨_, rfl, _, _, rfl, .inl (SqL.of hl), _, rfl, _, _, rfl, rfl, _, rfl, ?_⟩
    refine ite2 (fun h2 => ?_) (fun h2 => ?_)
    · have h2 := of_decide_eq_true h2
      refine ⟨_, rfl, ?_⟩
      refine ⟨d, c, 3, rfl, K2.dk, by decide, by decide, fun r H3 r1 r2 D3 b3 => ?_⟩
      have K3 := K2.step D3 b3
      have t3 := K2.dk.tups b3
      have hl3 := b3 _ _ hp1.1 hp1.2 hl
      refine ⟨_, _, rfl, rfl, _, rfl, ?_⟩
      refine ite2 (fun h3 => ?_) (fun h3 => ?_)
      · refine ⟨_, rfl, .inl ⟨rfl, _, SqL.of hl3⟩, _, rfl, _, _, rfl, rfl, .inl (by decide), _, rfl, ?_⟩
        refine ⟨d, c, 2, rfl, K3.dk, by decide, by decide, fun a H4 a1 a2 D4 b4 => ?_⟩
        have K4 := K3.step D4 b4
        have t4 := K3.dk.tups b4
        have hl4 := b4 _ _ hp1.1 hp1.2 hl3
        refine ⟨_, _, rfl, rfl, _, rfl, _, rfl, ?_⟩
        refine ⟨d, c, most, rfl, K4.dk, by omega, by omega, fun b H5 a3 a4 D5 b5 => ?_⟩
        have K5 := K4.step D5 b5
        have t5 := K4.dk.tups b5
        have hl5 := b5 _ _ hp1.1 hp1.2 hl4
        refine ⟨_, _, rfl, rfl, (by show 2 ≤ sizeLine; decide), fun p4 np4 => ?_⟩
        have p14 : p1 ≠ p4 := ne_of_none hl5 np4
        have hl6 : upd H5 p4 (.tup [.int (2 * (0 + (i : Int)) + a), .int (1 + b)]) p1 = some (.lst ys) := by rw [upd_ne p14]; exact hl5
        refine ⟨_, _, _, rfl, rfl, hl6, (by have := small1000 (n := ys.length + 1) (by omega); omega), ?_⟩
        have t6 : Tups H5 (upd (upd H5 p4 (.tup [.int (2 * (0 + (i : Int)) + a), .int (1 + b)])) p1 (.lst (ys ++ [.ref p4]))) := (Tups.new (Tups.refl H5) np4).trans (Tups.set hl6)
        refine ⟨tm ++ [(2 * (0 + (i : Int)) + a, 1 + b)], _, _, rfl, (K5.new np4).set np10 hp1.1 hp1.2, upd_same, ?_, by rw [List.length_append]; show tm.length + 1 ≤ 4; omega, fun q hq' => ?_⟩
        · rw [List.map_append]
          exact DAs.snoc (hys.mono (((t3.trans t4).trans t5).trans t6)) (DA.ofTm (by rw [upd_ne p14.symm]; exact upd_same))
        · rcases List.mem_append.mp hq' with q' | q'
          · exact hq q q'
          · rw [List.mem_singleton.mp q']
            refine ⟨?_, ?_, ?_, ?_⟩
            · show 0 ≤ 2 * (0 + (i : Int)) + a; omega
            · show 2 * (0 + (i : Int)) + a ≤ 1000; omega
            · show 0 ≤ 1 + b; omega
            · show 1 + b ≤ 9; omega
      · exact ⟨tm, ys, _, rfl, K3, hl3, hys.mono t3, hlen, hq⟩
    · refine iteF ?_
      exact ⟨tm, ys, _, rfl, K2, hl, hys, hlen, hq⟩
  · rintro σ' H' ⟨tm, ys, z, rfl, K2, hl, hys, hlen, hq⟩
    have hyl := hys.length
    rw [List.length_map] at hyl
    refine ⟨_, rfl, p1, rfl, ⟨_, SqL.of hl⟩, fun D5 nD5 => lc_list (K := K) (a := p1) (xs := ys) (fun i H3 => H3 D5 = some (.lst (((tm.take i).map Prod.snd).map V.int)) ∧ Dk d c H H3 ∧ H3 p1 = some (.lst ys) ∧ DAs H3 ys (tm.map dTm)) ?_ ?_ ?_ ?_⟩
    · have q1 : p1 ≠ D5 := ne_of_none hl nD5
      exact ⟨upd_same, K2.new nD5, by rw [upd_ne q1]; exact hl, hys.mono (Tups.new (Tups.refl H') nD5)⟩
    · exact fun i H3 _ h => SqL.of h.2.2.1
    · rintro i y H3 hi ⟨hD, K3, hl3, hys3⟩
      have q1 : p1 ≠ D5 := ne_of_none hl nD5
      obtain ⟨q, hqi, hy⟩ := hys3.getMap hi
      obtain ⟨b, rfl, hb⟩ := hy.tm
      have hil : i < tm.length := (List.getElem?_eq_some_iff.mp hqi).1
      have hn5 := K2.free nD5
      have h5 := K2.dk.ref nD5
      refine ⟨b, _, rfl, SqT.of hb, rfl, _, _, rfl, _, _, rfl, rfl, rfl, _, rfl, _, hD, by rw [List.length_map, List.length_map, List.length_take]; exact small1000 (by omega), ?_⟩
      refine ⟨?_, K3.set hn5 h5.1 h5.2, by rw [upd_ne q1]; exact hl3, hys3.mono (Tups.set hD)⟩
      rw [upd_same, take_snoc hqi, List.map_append, List.map_append]
      rfl
    · rintro H3 ⟨hD, K3, hl3, hys3⟩
      have etk : tm.take ys.length = tm := by rw [hyl, List.take_length]
      rw [etk] at hD
      have hs := sum_bound (l := tm.map Prod.snd) (N := 4) (by rw [List.length_map]; exact hlen) (fun z hz => by
        obtain ⟨q, hq', rfl⟩ := List.mem_map.mp hz
        exact (hq q hq').2.2)
      have tok : TmOk tm := ⟨by omega, fun q h => ⟨(hq q h).1, (hq q h).2.1, (hq q h).2.2.1, by have := (hq q h).2.2.2; omega⟩⟩
      have fin : ∀ (p7 : Addr) (H4 : Hp) (v : Int) (p8 : Addr), Dk d c H H4 → H4 p7 = some (.tup ys) → DAs H4 ys (tm.map dTm) → H4 p8 = none → -1000000 ≤ v → v ≤ 1000000 → Q (.ref p8) (upd H4 p8 (.tup [.ref p7, .int v])) := fun p7 H4 v p8 K4 h7 hy np8 v1 v2 => by
        have t := Tups.new (o := .tup [.ref p7, .int v]) (Tups.refl H4) np8
        exact k _ (tm, v) _ (.tup upd_same (.cons (.tup (t _ _ h7) (hy.mono t)) (.cons (.int _) .nil))) ⟨tok, v1, v2⟩ (K4.new np8).dk (K4.new np8).bt
      refine ⟨_, tm.map Prod.snd, rfl, SqL.of hD, _, rfl, rfl, _, rfl, ?_⟩
      refine ite2 (fun h6 => ?_) (fun h6 => ?_)
      · refine ⟨_, rfl, _, _, rfl, .inl ⟨SqL.of hl3, fun p7 np7 => ?_⟩⟩
        refine ⟨(by show 2 ≤ sizeLine; decide), fun p8 np8 => ?_⟩
        exact fin p7 _ 1 p8 (K3.new np7) upd_same (hys3.mono (Tups.new (Tups.refl H3) np7)) np8 (by decide) (by decide)
      · refine ⟨_, rfl, rfl, _, rfl, ?_⟩
        refine ite2 (fun h9 => ?_) (fun h9 => ?_)
        · refine ⟨_, rfl, _, _, rfl, .inl ⟨SqL.of hl3, fun p10 np10 => ?_⟩⟩
          have K4 := K3.new (o := .tup ys) np10
          refine ⟨_, rfl, _, rfl, _, _, rfl, rfl, ?_⟩
          refine ⟨d, c, (tm.map Prod.snd).sum + 1, rfl, K4.dk, by omega, by omega, fun r H5 r1 r2 D5' b5 => ?_⟩
          have K5 := K4.step D5' b5
          have t5 := K4.dk.tups b5
          refine ⟨_, _, rfl, rfl, (by show 2 ≤ sizeLine; decide), fun p11 np11 => ?_⟩
          exact fin p10 _ (1 + r) p11 K5 (t5 _ _ upd_same) ((hys3.mono (Tups.new (Tups.refl H3) np10)).mono t5) np11 (by omega) (by omega)
        · refine ⟨_, rfl, _, _, rfl, .inl ⟨SqL.of hl3, fun p12 np12 => ?_⟩⟩
          have K4 := K3.new (o := .tup ys) np12
          refine ⟨_, rfl, rfl, _, rfl, ?_⟩
          refine ite2 (fun h13 => ?_) (fun h13 => ?_)
          · refine ⟨_, rfl, _, _, rfl, rfl, ⟨by decide, by decide⟩, (by show 2 ≤ sizeLine; decide), fun p14 np14 => ?_⟩
            have e : ((tm.map Prod.snd).sum).fdiv 2 = (tm.map Prod.snd).sum / 2 := Int.fdiv_eq_ediv_of_nonneg _ (by decide)
            exact fin p12 _ (((tm.map Prod.snd).sum).fdiv 2) p14 K4 upd_same (hys3.mono (Tups.new (Tups.refl H3) np12)) np14 (by rw [e]; omega) (by rw [e]; omega)
          · refine ⟨_, rfl, _, rfl, ?_⟩
            refine ⟨d, c, 3, rfl, K4.dk, by decide, by decide, fun r H5 r1 r2 D5' b5 => ?_⟩
            have K5 := K4.step D5' b5
            have t5 := K4.dk.tups b5
            refine ⟨_, _, rfl, rfl, (by show 2 ≤ sizeLine; decide), fun p15 np15 => ?_⟩
            exact fin p12 _ ((tm.map Prod.snd).sum - r) p15 K5 (t5 _ _ upd_same) ((hys3.mono (Tups.new (Tups.refl H3) np12)).mono t5) np15 (by omega) (by omega)
end
end K77
namespace K77
open PySem PySem.Spec PyProof.Rows L2
open C8 (pss_cut)
theorem DAs.perm {α : Type} {f : α → Da} {H : Hp} {xs ys : List V} (p : ys.Perm xs) : ∀ {l : List α}, DAs H xs (l.map f) → ∃ l' : List α, l'.Perm l ∧ DAs H ys (l'.map f) := by
  induction p with
  | nil => intro l h; exact ⟨l, .refl l, h⟩
  | @cons x a b hp ih =>
    intro l h
    cases l with
    | nil => cases h
    | cons q r =>
      cases h with
      | cons h1 h2 =>
        obtain ⟨l', e1, e2⟩ := ih h2
        exact ⟨q :: l', .cons q e1, .cons h1 e2⟩
  | swap x y a =>
    intro l h
    cases l with
    | nil => cases h
    | cons q r =>
      cases h with
      | cons h1 h2 =>
        cases r with
        | nil => cases h2
        | cons q2 r =>
          cases h2 with
          | cons h2 h3 => exact ⟨q2 :: q :: r, .swap .., .cons h2 (.cons h1 h3)⟩
  | trans _ _ ih1 ih2 =>
    intro l h
    obtain ⟨l', e1, e2⟩ := ih2 h
    obtain ⟨l2, e3, e4⟩ := ih1 e2
    exact ⟨l2, e3.trans e1, e4⟩
theorem DAs.append {H : Hp} : ∀ {xs ys : List V} {ds es : List Da}, DAs H xs ds → DAs H ys es → DAs H (xs ++ ys) (ds ++ es)
  | _, _, _, _, .nil, h => h
  | _, _, _, _, .cons a b, h => .cons a (DAs.append b h)
theorem DAs.take {H : Hp} : ∀ {xs : List V} {ds : List Da} (n : Nat), DAs H xs ds → DAs H (xs.take n) (ds.take n)
  | _, _, 0, _ => by rw [List.take_zero, List.take_zero]; exact .nil
  | _, _, n + 1, .nil => by rw [List.take_nil, List.take_nil]; exact .nil
  | _, _, n + 1, .cons a b => by rw [List.take_succ_cons, List.take_succ_cons]; exact .cons a (DAs.take n b)
theorem DAs.drop {H : Hp} : ∀ {xs : List V} {ds : List Da} (n : Nat), DAs H xs ds → DAs H (xs.drop n) (ds.drop n)
  | _, _, 0, h => by rw [List.drop_zero, List.drop_zero]; exact h
  | _, _, n + 1, .nil => by rw [List.drop_nil, List.drop_nil]; exact .nil
  | _, _, n + 1, .cons a b => by rw [List.drop_succ_cons, List.drop_succ_cons]; exact DAs.drop n b
/-- a sum of two terms of weight 1 -/
theorem pair_ok {H : Hp} {ys : List V} {p q : Addr} {a b : Int} (hp : ys.Perm [.ref p, .ref q]) (h1 : H p = some (.tup [.int a, .int 1])) (h2 : H q = some (.tup [.int b, .int 1])) (a0 : 0 ≤ a) (a1 : a ≤ 1000) (b0 : 0 ≤ b) (b1 : b ≤ 1000) :
    ∃ tm : Tm, DAs H ys (tm.map dTm) ∧ TmOk tm := by
  obtain ⟨tm, e1, e2⟩ := DAs.perm (f := dTm) (l := [(a, 1), (b, 1)]) hp (.cons (DA.ofTm h1) (.cons (DA.ofTm h2) .nil))
  refine ⟨tm, e2, by rw [e1.length_eq]; show 2 ≤ 12; decide, fun x hx => ?_⟩
  have := e1.mem_iff.mp hx
  rcases List.mem_cons.mp this with rfl | h
  · exact ⟨a0, a1, (by decide : (0 : Int) ≤ 1), (by decide : (1 : Int) ≤ 1000)⟩
  · rw [List.mem_singleton.mp h]
    exact ⟨b0, b1, (by decide : (0 : Int) ≤ 1), (by decide : (1 : Int) ≤ 1000)⟩
theorem xor_fin : ∀ x : Fin 24, 0 ≤ Builtin.bitXor (x.val : Int) 1 ∧ Builtin.bitXor (x.val : Int) 1 ≤ 1000 := by decide +kernel
theorem xor_ok {x : Int} (h0 : 0 ≤ x) (h1 : x < 24) : 0 ≤ Builtin.bitXor x 1 ∧ Builtin.bitXor x 1 ≤ 1000 := by
  have := xor_fin ⟨x.toNat, by omega⟩
  have e : ((x.toNat : Nat) : Int) = x := Int.toNat_of_nonneg h0
  rw [← e]
  exact this
def spTied : Sp := fun vs H Q _ => ∃ (d c : Addr) (many : Int), vs = [.ref d, .int many] ∧ DeckAt d c H ∧ 1 ≤ many ∧ many ≤ 12 ∧ ∀ x pb H', DA H' x (dPb pb) → PbOk pb → DeckAt d c H' → But d c H H' → Q x H'
/-- sums made so far -/
structure Sums (d c : Addr) (H0 H : Hp) (l : Addr) (N : Nat) : Prop where
  dk : Dk d c H0 H
  ex : ∃ (sums : List (Tm × Int)) (ys : List V), H l = some (.lst ys) ∧ DAs H ys (sums.map dSum) ∧ sums.length ≤ N ∧ ∀ s ∈ sums, SmOk s
section
variable {d c l p : Addr} {H0 H H' : Hp} {o : HO} {N : Nat}
theorem Sums.step (S : Sums d c H0 H l N) (h1 : l ≠ d) (h2 : l ≠ c) (k : DeckAt d c H') (b : But d c H H') : Sums d c H0 H' l N := by
  obtain ⟨sums, ys, e1, e2, e3, e4⟩ := S.ex
  exact ⟨S.dk.step k b, sums, ys, b _ _ h1 h2 e1, e2.mono (S.dk.dk.tups b), e3, e4⟩
theorem Sums.new (S : Sums d c H0 H l N) (np : H p = none) : Sums d c H0 (upd H p o) l N := by
  obtain ⟨sums, ys, e1, e2, e3, e4⟩ := S.ex
  exact ⟨S.dk.new np, sums, ys, by rw [upd_ne (ne_of_none e1 np)]; exact e1, e2.mono (Tups.new (Tups.refl H) np), e3, e4⟩
theorem Sums.more {M : Nat} (S : Sums d c H0 H l N) (h : N ≤ M) : Sums d c H0 H l M := by
  obtain ⟨sums, ys, e1, e2, e3, e4⟩ := S.ex
  exact ⟨S.dk, sums, ys, e1, e2, Nat.le_trans e3 h, e4⟩
theorem Sums.add {x : V} {sm : Tm × Int} {ys : List V} (S : Sums d c H0 H l N) (h1 : l ≠ d) (h2 : l ≠ c) (nl : H0 l = none) (e : H l = some (.lst ys)) (hx : DA H x (dSum sm)) (hs : SmOk sm) : Sums d c H0 (upd H l (.lst (ys ++ [x]))) l (N + 1) := by
  obtain ⟨sums, ys', e1, e2, e3, e4⟩ := S.ex
  rw [e] at e1
  cases e1
  have t : Tups H (upd H l (.lst (ys ++ [x]))) := Tups.set e
  refine ⟨S.dk.set nl h1 h2, sums ++ [sm], ys ++ [x], upd_same, ?_, by rw [List.length_append]; show sums.length + 1 ≤ _; omega, fun s hs' => ?_⟩
  · rw [List.map_append]
    exact DAs.snoc (e2.mono t) (hx.mono t)
  · rcases List.mem_append.mp hs' with q | q
    · exact e4 s q
    · rw [List.mem_singleton.mp q]; exact hs
theorem Sums.pair {a b : Int} {p3 p4 p5 p6 p7 p8 : Addr} {zs : List V} (S : Sums d c H0 H l N) (h1 : l ≠ d) (h2 : l ≠ c) (nl : H0 l = none) (a0 : 0 ≤ a) (a1 : a ≤ 1000) (b0 : 0 ≤ b) (b1 : b ≤ 1000)
    (np3 : H p3 = none) (np4 : upd H p3 (.tup [.int a, .int 1]) p4 = none) (np5 : upd (upd H p3 (.tup [.int a, .int 1])) p4 (.tup [.int b, .int 1]) p5 = none) (hp : zs.Perm [.ref p3, .ref p4])
    (np6 : upd (upd (upd H p3 (.tup [.int a, .int 1])) p4 (.tup [.int b, .int 1])) p5 (.lst [.ref p3, .ref p4]) p6 = none)
    (np7 : upd (upd (upd (upd H p3 (.tup [.int a, .int 1])) p4 (.tup [.int b, .int 1])) p5 (.lst [.ref p3, .ref p4])) p6 (.lst zs) p7 = none)
    (np8 : upd (upd (upd (upd (upd H p3 (.tup [.int a, .int 1])) p4 (.tup [.int b, .int 1])) p5 (.lst [.ref p3, .ref p4])) p6 (.lst zs)) p7 (.tup zs) p8 = none) :
    ∃ ys, upd (upd (upd (upd (upd (upd H p3 (.tup [.int a, .int 1])) p4 (.tup [.int b, .int 1])) p5 (.lst [.ref p3, .ref p4])) p6 (.lst zs)) p7 (.tup zs)) p8 (.tup [.ref p7, .int 1]) l = some (.lst ys) ∧ ys.length ≤ N ∧
      Sums d c H0 (upd (upd (upd (upd (upd (upd (upd H p3 (.tup [.int a, .int 1])) p4 (.tup [.int b, .int 1])) p5 (.lst [.ref p3, .ref p4])) p6 (.lst zs)) p7 (.tup zs)) p8 (.tup [.ref p7, .int 1])) l (.lst (ys ++ [.ref p8]))) l (N + 1) := by
  have T4 : Tups (upd H p3 (.tup [.int a, .int 1])) (upd (upd H p3 (.tup [.int a, .int 1])) p4 (.tup [.int b, .int 1])) := Tups.new (Tups.refl _) np4
  have hp3 := T4 p3 _ upd_same
  have S8 := (((((S.new np3).new np4).new np5).new np6).new np7).new (o := .tup [.ref p7, .int 1]) np8
  generalize hG4 : upd (upd H p3 (.tup [.int a, .int 1])) p4 (.tup [.int b, .int 1]) = G4 at *
  have hp4 : G4 p4 = some (.tup [.int b, .int 1]) := by rw [← hG4]; exact upd_same
  have T8 : Tups G4 (upd (upd (upd (upd G4 p5 (.lst [.ref p3, .ref p4])) p6 (.lst zs)) p7 (.tup zs)) p8 (.tup [.ref p7, .int 1])) := Tups.new (Tups.new (Tups.new (Tups.new (Tups.refl G4) np5) np6) np7) np8
  have n78 : p7 ≠ p8 := ne_of_none upd_same np8
  have hp7 : (upd (upd (upd (upd G4 p5 (.lst [.ref p3, .ref p4])) p6 (.lst zs)) p7 (.tup zs)) p8 (.tup [.ref p7, .int 1])) p7 = some (.tup zs) := by rw [upd_ne n78]; exact upd_same
  have hp8 : (upd (upd (upd (upd G4 p5 (.lst [.ref p3, .ref p4])) p6 (.lst zs)) p7 (.tup zs)) p8 (.tup [.ref p7, .int 1])) p8 = some (.tup [.ref p7, .int 1]) := upd_same
  generalize (upd (upd (upd (upd G4 p5 (.lst [.ref p3, .ref p4])) p6 (.lst zs)) p7 (.tup zs)) p8 (.tup [.ref p7, .int 1])) = G8 at *
  obtain ⟨tm, hda, htm⟩ := pair_ok hp (T8 _ _ hp3) (T8 _ _ hp4) a0 a1 b0 b1
  obtain ⟨sums, ys, e1, e2, e3, e4⟩ := id S8.ex
  have := e2.length
  rw [List.length_map] at this
  refine ⟨ys, e1, by omega, S8.add (sm := (tm, 1)) h1 h2 nl e1 (.tup hp8 (.cons (.tup hp7 hda) (.cons (.int _) .nil))) ⟨htm, by show (-1000000 : Int) ≤ 1; decide, by show (1 : Int) ≤ 1000000; decide⟩⟩
end
section
variable {P : Program} {w : World} {K : PySem.W.Frag} {mg : Str → Option Value} {base : Heap}
theorem ok_l_tied (T : Txt P K mg) : FnOk P w K mg base CX0 3 (He.fAd K ("_law_tied", none)) (fdO K ("_law_tied", none)) ["deck", "many"] spTied := by
  refine T.F_l_tied.ok sc_l_tied (fun vs H Q E h => ?_) (fun cdv A outer s H vs Q E hr h => ?_)
  · obtain ⟨d, c, many, rfl, _⟩ := h
    rfl
  obtain ⟨d, c, many, rfl, D0, m1, m2, k⟩ := h
  refine ⟨_, PSs.nox (pss_cons (ps_par (i := 2) (j := 3) (by rfl) sc_l_tied.nd rfl rfl (by decide) rfl rfl (pa_cons (pe_lc (own := [("turn", 4)]) (by rfl) sc_l_tied.nd (pi_range1 rfl T.z_range (pa_cons (pe_op op_add pe_int (pe_call (ok_l_pick T) (hr.mono (by decide)) rfl T.g__law_pick T.F_l_pick.kp (b_l_pick T) .nil pass0 (pa_cons (pv 0) (pa_cons pe_int pa_nil)))) pa_nil)) (blkOk_by (own := [("turn", 4)]) (N := N_l_tied) (sc := defScope s_l_tied) (by decide +kernel)) (fun _ _ _ _ _ => (pg_name (i := 4) sc_l_tied.nd rfl (Or.inl rfl))) (fun _ _ _ _ _ => pts_nil) (fun _ _ _ _ _ => (pe_call (ok_l_sum T) hr rfl T.g__law_sum T.F_l_sum.kp (b_l_sum T) .nil pass0 (pa_cons (pv 0) (pa_cons (pv 1) (pa_cons pe_int (pa_cons (pe_ix (r := rIxL K) ix_list (pe_lst (pa_cons pe_int (pa_cons pe_int (pa_cons pe_int pa_nil)))) (pe_call (ok_l_pick T) (hr.mono (by decide)) rfl T.g__law_pick T.F_l_pick.kp (b_l_pick T) .nil pass0 (pa_cons (pv 0) (pa_cons pe_int pa_nil))) (fun _ _ => rfl)) pa_nil))))))) (pa_cons (pe_call (ok_l_pick T) (hr.mono (by decide)) rfl T.g__law_pick T.F_l_pick.kp (b_l_pick T) .nil pass0 (pa_cons (pv 0) (pa_cons pe_int pa_nil))) pa_nil)) (by rfl))
    (pss_cons (ps_for PassesOwn.never rfl (pi_range1 rfl T.z_range (pa_cons (pe_ifExp (pt_cmpR op_gt (pv 1) pe_int (nomark _)) (pe_call (ok_l_pick T) (hr.mono (by decide)) rfl T.g__law_pick T.F_l_pick.kp (b_l_pick T) .nil pass0 (pa_cons (pv 0) (pa_cons pe_int pa_nil))) pe_int) pa_nil)) (pg_name (i := 4) sc_l_tied.nd rfl (Or.inl rfl))
      (pss_cons (ps_set (i := 5) sc_l_tied.nd rfl (Or.inl rfl) (pe_call (ok_l_pick T) (hr.mono (by decide)) rfl T.g__law_pick T.F_l_pick.kp (b_l_pick T) .nil pass0 (pa_cons (pv 0) (pa_cons (pv 1) pa_nil))))
      (pss_cons (ps_set (i := 6) sc_l_tied.nd rfl (Or.inl rfl) (pe_op op_modN (pe_callTy call_int1 (by rfl) T.z_int (by decide +kernel) (pa_cons (pe_op op_add (pe_op op_add (pv 5) pe_int) (pe_call (ok_l_pick T) (hr.mono (by decide)) rfl T.g__law_pick T.F_l_pick.kp (b_l_pick T) .nil pass0 (pa_cons (pv 0) (pa_cons (pe_op op_sub (pv 1) pe_int) pa_nil)))) pa_nil)) (pv 1)))
      (pss_cons (ps_par (i := 7) (j := 8) (by rfl) sc_l_tied.nd rfl rfl (by decide) rfl rfl (pa_cons (pe_op op_add (pe_op op_mul pe_int (pv 5)) (pe_call (ok_l_pick T) (hr.mono (by decide)) rfl T.g__law_pick T.F_l_pick.kp (b_l_pick T) .nil pass0 (pa_cons (pv 0) (pa_cons pe_int pa_nil)))) (pa_cons (pe_op op_add (pe_op op_mul pe_int (pv 6)) (pe_call (ok_l_pick T) (hr.mono (by decide)) rfl T.g__law_pick T.F_l_pick.kp (b_l_pick T) .nil pass0 (pa_cons (pv 0) (pa_cons pe_int pa_nil)))) pa_nil)) (by rfl))
      (pss_cons (ps_expr (pe_bm PySem.F.plainAttrs_list PySem.F.slot_list_append PySem.F.type_list_append mt_append (pv 2) (pa_cons (pe_tup (pa_cons (pe_callTy call_tuple_of (by rfl) T.z_tuple (by decide +kernel) (pa_cons (pe_callB cr_sortedP (by rfl) T.z_sorted (by decide +kernel) (pa_cons (pe_lst (pa_cons (pe_tup (pa_cons (pv 7) (pa_cons pe_int pa_nil))) (pa_cons (pe_tup (pa_cons (pv 8) (pa_cons pe_int pa_nil))) pa_nil))) pa_nil)) pa_nil)) (pa_cons pe_int pa_nil))) pa_nil)))
      (pss_one (ps_if (pt_cmpR op_gt (pv 3) pe_int (nomark _))
        (pss_one (ps_expr (pe_bm PySem.F.plainAttrs_list PySem.F.slot_list_append PySem.F.type_list_append mt_append (pv 2) (pa_cons (pe_tup (pa_cons (pe_callTy call_tuple_of (by rfl) T.z_tuple (by decide +kernel) (pa_cons (pe_callB cr_sortedP (by rfl) T.z_sorted (by decide +kernel) (pa_cons (pe_lst (pa_cons (pe_tup (pa_cons (pe_op op_xor (pv 7) pe_int) (pa_cons pe_int pa_nil))) (pa_cons (pe_tup (pa_cons (pe_op op_xor (pv 8) pe_int) (pa_cons pe_int pa_nil))) pa_nil))) pa_nil)) pa_nil)) (pa_cons pe_int pa_nil))) pa_nil))))
        pss_nil)))))))
    (pss_cut (ps_if (pt_cmpR op_eq (pv 3) pe_int (nomark _))
      (pss_one (ps_expr (pe_bm PySem.F.plainAttrs_list PySem.F.slot_list_insert PySem.F.type_list_insert mt_insert (pv 2) (pa_cons (pe_call (ok_l_pick T) (hr.mono (by decide)) rfl T.g__law_pick T.F_l_pick.kp (b_l_pick T) .nil pass0 (pa_cons (pv 0) (pa_cons (pe_op op_add (pe_callB call_len_seq (by rfl) T.z_len (by decide +kernel) (pa_cons (pv 2) pa_nil)) pe_int) pa_nil))) (pa_cons (pe_tup (pa_cons (pe_tup (pa_cons (pe_tup (pa_cons (pe_call (ok_l_pick T) (hr.mono (by decide)) rfl T.g__law_pick T.F_l_pick.kp (b_l_pick T) .nil pass0 (pa_cons (pv 0) (pa_cons (pe_op op_mul pe_int (pv 1)) pa_nil))) (pa_cons pe_int pa_nil))) pa_nil)) (pa_cons (pe_op op_add pe_int (pe_call (ok_l_pick T) (hr.mono (by decide)) rfl T.g__law_pick T.F_l_pick.kp (b_l_pick T) .nil pass0 (pa_cons (pv 0) (pa_cons pe_int pa_nil)))) pa_nil))) pa_nil)))))
      pss_nil)
    (pss_cons (ps_set (i := 9) sc_l_tied.nd rfl (Or.inl rfl) pe_non)
    (pss_cut (ps_if (pt_cmpR op_gt (pe_call (ok_l_pick T) (hr.mono (by decide)) rfl T.g__law_pick T.F_l_pick.kp (b_l_pick T) .nil pass0 (pa_cons (pv 0) (pa_cons pe_int pa_nil))) pe_int (nomark _))
      (pss_cons (ps_setLc (i := 10) (own := [("k", 11)]) rfl sc_l_tied.nd rfl rfl (sw_true rfl rfl rfl (by decide +kernel)) (pi_range1 rfl T.z_range (pa_cons (pv 1) pa_nil)) (blkOk_by (own := [("k", 11)]) (N := N_l_tied) (sc := defScope s_l_tied) (by decide +kernel)) (fun _ _ _ _ _ => (pg_name (i := 11) sc_l_tied.nd rfl (Or.inl rfl))) (fun _ _ _ _ _ => (pts_one (pt_cmpR op_gt (pe_call (ok_l_pick T) (hr.mono (by decide)) rfl T.g__law_pick T.F_l_pick.kp (b_l_pick T) .nil pass0 (pa_cons (pv 0) (pa_cons pe_int pa_nil))) pe_int (nomark _)))) (fun _ _ _ _ _ => (pe_tup (pa_cons (pe_op op_add (pe_op op_mul pe_int (pv 11)) (pe_call (ok_l_pick T) (hr.mono (by decide)) rfl T.g__law_pick T.F_l_pick.kp (b_l_pick T) .nil pass0 (pa_cons (pv 0) (pa_cons pe_int pa_nil)))) (pa_cons (pe_op op_add pe_int (pe_call (ok_l_pick T) (hr.mono (by decide)) rfl T.g__law_pick T.F_l_pick.kp (b_l_pick T) .nil pass0 (pa_cons (pv 0) (pa_cons pe_int pa_nil)))) pa_nil)))))
      (pss_one (ps_set (i := 9) sc_l_tied.nd rfl (Or.inl rfl) (pe_tup (pa_cons (pe_callTy call_tuple_of (by rfl) T.z_tuple (by decide +kernel) (pa_cons (pv 10) pa_nil)) (pa_cons (pe_op op_sub (pe_call (ok_l_pick T) (hr.mono (by decide)) rfl T.g__law_pick T.F_l_pick.kp (b_l_pick T) .nil pass0 (pa_cons (pv 0) (pa_cons pe_int pa_nil))) pe_int) pa_nil))))))
      pss_nil)
    (pss_one (ps_ret (pe_tup (pa_cons (pv 1) (pa_cons (pe_callTy call_tuple_of (by rfl) T.z_tuple (by decide +kernel) (pa_cons (pv 2) pa_nil)) (pa_cons (pv 9) pa_nil))))))))))), ?_⟩
  refine ⟨_, rfl, ?_⟩
  refine ⟨d, c, 4, rfl, D0, by decide, by decide, fun r0 H1 r01 r02 D1' b1 => ?_⟩
  have K1 : Dk d c H H1 := ⟨D1', b1⟩
  refine ⟨_, _, rfl, rfl, 1 + r0, rfl, by omega, by omega, fun D1 nD1 => lc_range (lo := 0) (n := (1 + r0).toNat) (fun i H2 => Sums d c H H2 D1 i) ?_ ?_ ?_⟩
  · exact ⟨K1.new nD1, [], [], upd_same, .nil, Nat.zero_le _, fun s hs => by cases hs⟩
  · rintro i H2 hi S2
    have hD : D1 ≠ d ∧ D1 ≠ c := K1.dk.ref nD1
    refine ⟨rfl, _, rfl, _, rfl, (by show 3 ≤ sizeLine; decide), fun p2 np2 => ?_⟩
    have S3 := S2.new (o := .lst [.int 1, .int 4, .int 9]) np2
    have hp2 := S2.dk.dk.ref np2
    refine ⟨_, rfl, ?_⟩
    refine ⟨d, c, 3, rfl, S3.dk.dk, by decide, by decide, fun r3 H4 r31 r32 D4 b4 => ?_⟩
    have S4 := S3.step hD.1 hD.2 D4 b4
    have hl4 := b4 _ _ hp2.1 hp2.2 upd_same
    have hr3 : r3 = 0 ∨ r3 = 1 ∨ r3 = 2 := by omega
    have hsel : ∃ most : Int, atI [V.int 1, V.int 4, V.int 9] r3 = some (.int most) ∧ 1 ≤ most ∧ most ≤ 9 := by
      rcases hr3 with rfl | rfl | rfl
      · exact ⟨1, rfl, by decide, by decide⟩
      · exact ⟨4, rfl, by decide, by decide⟩
      · exact ⟨9, rfl, by decide, by decide⟩
    obtain ⟨most, hat, o1, o2⟩ := hsel
    refine ⟨_, _, _, _, rfl, rfl, SqL.of hl4, hat, ?_⟩
    refine ⟨d, c, many, most, rfl, S4.dk.dk, m1, m2, o1, o2, fun x sm H5 hx hsm D5 b5 => ?_⟩
    have S5 := S4.step hD.1 hD.2 D5 b5
    obtain ⟨sums, ys, e1, e2, e3, e4⟩ := S5.ex
    have hyl := e2.length
    rw [List.length_map] at hyl
    have t6 : Tups H5 (upd H5 D1 (.lst (ys ++ [x]))) := Tups.set e1
    refine ⟨_, e1, small1000 (by omega), S5.dk.set (K1.free nD1) hD.1 hD.2, sums ++ [sm], ys ++ [x], upd_same, ?_, by rw [List.length_append]; show sums.length + 1 ≤ _; omega, fun s hs => ?_⟩
    · rw [List.map_append]
      exact DAs.snoc (e2.mono t6) (hx.mono t6)
    · rcases List.mem_append.mp hs with q | q
      · exact e4 s q
      · rw [List.mem_singleton.mp q]; exact hsm
  · intro H2 S2
    have hD : D1 ≠ d ∧ D1 ≠ c := K1.dk.ref nD1
    have nD10 := K1.free nD1
    refine ⟨_, rfl, ?_⟩
    refine ⟨d, c, 4, rfl, S2.dk.dk, by decide, by decide, fun kind H3 kd1 kd2 D3 b3 => ?_⟩
    have S3 : Sums d c H H3 D1 4 := by
      have := S2.step hD.1 hD.2 D3 b3
      obtain ⟨sums, ys, e1, e2, e3, e4⟩ := this.ex
      exact ⟨this.dk, sums, ys, e1, e2, by omega, e4⟩
    refine ⟨_, _, rfl, ?_⟩
    refine ⟨_, rfl, _, _, rfl, rfl, _, rfl, ?_⟩
    refine ite2 (fun h2 => ?_) (fun h2 => ?_)
    · have h2 := of_decide_eq_true h2
      refine ⟨_, rfl, ?_⟩
      refine ⟨d, c, 4, rfl, S3.dk.dk, by decide, by decide, fun turns H4 q1 q2 D4 b4 => ?_⟩
      have S3 := S3.step hD.1 hD.2 D4 b4
      have ht3 : turns ≤ 3 := by omega
      have hm1' : 0 < turns → 1 < many := fun _ => h2
      refine ⟨turns, rfl, by omega, by omega, for_range (lo := 0) (n := turns.toNat) (fun i σ' H' => ∃ (z4 z5 z6 z7 z8 : Option V), σ' = [some (.ref d), some (.int many), some (.ref D1), some (.int kind), z4, z5, z6, z7, z8, none, none, none] ∧ Sums d c H H' D1 (4 + 2 * i)) ⟨none, none, none, none, none, rfl, S3⟩ ?_ ?_⟩
      · rintro i σ' H' hi ⟨z4, z5, z6, z7, z8, rfl, S4⟩
        have hm1 : 1 < many := hm1' (by omega)
        have hi3 : i < 3 := by omega
        refine ⟨_, rfl, _, rfl, ?_⟩
        refine ⟨d, c, many, rfl, S4.dk.dk, by omega, by omega, fun first H5 f1 f2 D5 b5 => ?_⟩
        have S5 := S4.step hD.1 hD.2 D5 b5
        refine ⟨_, rfl, _, _, rfl, rfl, _, rfl, _, rfl, _, _, rfl, rfl, ?_⟩
        refine ⟨d, c, many - 1, rfl, S5.dk.dk, by omega, by omega, fun r6 H6 f3 f4 D6 b6 => ?_⟩
        have S6 := S5.step hD.1 hD.2 D6 b6
        refine ⟨_, _, rfl, rfl, .inl ⟨_, rfl, ?_⟩⟩
        have hsec := fmod_lt (a := first + 1 + r6) (b := many) (by omega)
        refine ⟨_, rfl, _, _, rfl, rfl, (by omega), _, rfl, _, _, rfl, rfl, .inl (by decide), _, rfl, ?_⟩
        refine ⟨d, c, 2, rfl, S6.dk.dk, by decide, by decide, fun r7 H7 f5 f6 D7 b7 => ?_⟩
        have S7 := S6.step hD.1 hD.2 D7 b7
        refine ⟨_, _, rfl, rfl, _, rfl, _, _, rfl, rfl, .inl (by decide), _, rfl, ?_⟩
        refine ⟨d, c, 2, rfl, S7.dk.dk, by decide, by decide, fun r8 H8 f7 f8 D8 b8 => ?_⟩
        have S8 := S7.step hD.1 hD.2 D8 b8
        have one0 : 0 ≤ 2 * first + r7 := by omega
        have one1 : 2 * first + r7 < 24 := by omega
        have oth0 : 0 ≤ 2 * (first + 1 + r6).fmod many + r8 := by omega
        have oth1 : 2 * (first + 1 + r6).fmod many + r8 < 24 := by omega
        obtain ⟨sums0, ys0, e1, e2, e3, e4⟩ := id S8.ex
        refine ⟨_, _, rfl, rfl, _, _, rfl, _, rfl, .inl ⟨rfl, _, SqL.of e1⟩, _, rfl, (by show 2 ≤ sizeLine; decide), fun p3 np3 => ?_⟩
        refine ⟨_, rfl, (by show 2 ≤ sizeLine; decide), fun p4 np4 => ?_⟩
        refine ⟨(by show 2 ≤ sizeLine; decide), fun p5 np5 => ?_⟩
        have n34 : p3 ≠ p4 := ne_of_none upd_same np4
        have n45 : p4 ≠ p5 := ne_of_none upd_same np5
        have n35 : p3 ≠ p5 := ne_of_none (by rw [upd_ne n34]; exact upd_same) np5
        refine ⟨_, _, rfl, SqL.of upd_same, fun x hx => ?_, fun zs p6 hperm np6 => ?_⟩
        · rcases List.mem_cons.mp hx with rfl | hx
          · exact ⟨p3, _, _, rfl, by rw [upd_ne n35, upd_ne n34]; exact upd_same⟩
          · rw [List.mem_singleton.mp hx]
            exact ⟨p4, _, _, rfl, by rw [upd_ne n45]; exact upd_same⟩
        refine ⟨_, _, rfl, .inl ⟨SqL.of upd_same, fun p7 np7 => ?_⟩⟩
        refine ⟨(by show 2 ≤ sizeLine; decide), fun p8 np8 => ?_⟩
        obtain ⟨ys, hl, hlen, S9⟩ := Sums.pair S8 hD.1 hD.2 nD10 one0 (by omega) oth0 (by omega) np3 np4 np5 hperm np6 np7 np8
        refine ⟨_, _, _, rfl, rfl, hl, small1000 (by omega), ?_⟩
        refine ⟨_, rfl, _, _, rfl, rfl, _, rfl, ?_⟩
        refine ite2 (fun h8 => ?_) (fun h8 => ?_)
        · obtain ⟨sums0, ys0, e1, e2, e3, e4⟩ := id S9.ex
          have x1 := xor_ok one0 one1
          have x2 := xor_ok oth0 oth1
          refine ⟨_, rfl, .inl ⟨rfl, _, SqL.of upd_same⟩, _, rfl, _, _, rfl, rfl, (by show 2 ≤ sizeLine; decide), fun p3 np3 => ?_⟩
          refine ⟨_, rfl, _, _, rfl, rfl, (by show 2 ≤ sizeLine; decide), fun p4 np4 => ?_⟩
          refine ⟨(by show 2 ≤ sizeLine; decide), fun p5 np5 => ?_⟩
          have n34 : p3 ≠ p4 := ne_of_none upd_same np4
          have n45 : p4 ≠ p5 := ne_of_none upd_same np5
          have n35 : p3 ≠ p5 := ne_of_none (by rw [upd_ne n34]; exact upd_same) np5
          refine ⟨_, _, rfl, SqL.of upd_same, fun x hx => ?_, fun zs p6 hperm np6 => ?_⟩
          · rcases List.mem_cons.mp hx with rfl | hx
            · exact ⟨p3, _, _, rfl, by rw [upd_ne n35, upd_ne n34]; exact upd_same⟩
            · rw [List.mem_singleton.mp hx]
              exact ⟨p4, _, _, rfl, by rw [upd_ne n45]; exact upd_same⟩
          refine ⟨_, _, rfl, .inl ⟨SqL.of upd_same, fun p7 np7 => ?_⟩⟩
          refine ⟨(by show 2 ≤ sizeLine; decide), fun p8 np8 => ?_⟩
          obtain ⟨ys, hl, hlen, S10⟩ := Sums.pair S9 hD.1 hD.2 nD10 x1.1 x1.2 x2.1 x2.2 np3 np4 np5 hperm np6 np7 np8
          refine ⟨_, _, _, rfl, rfl, hl, small1000 (by omega), ?_⟩
          exact ⟨_, _, _, _, _, rfl, S10.more (by omega)⟩
        · exact ⟨_, _, _, _, _, rfl, S9.more (by omega)⟩
      · rintro σ' H' ⟨z4, z5, z6, z7, z8, rfl, S4⟩
        have S4 : Sums d c H H' D1 10 := S4.more (by omega)
        refine ⟨fun σ' H' => σ' = [some (.ref d), some (.int many), some (.ref D1), some (.int kind), z4, z5, z6, z7, z8, none, none, none] ∧ Sums d c H H' D1 11, ?_, ?_⟩
        · refine ⟨_, rfl, rfl, _, rfl, ?_⟩
          refine ite2 (fun h14 => ?_) (fun h14 => ?_)
          · obtain ⟨sums0, ys0, e1, e2, e3, e4⟩ := id S4.ex
            have hyl := e2.length
            rw [List.length_map] at hyl
            refine ⟨_, rfl, .inl ⟨rfl, _, SqL.of e1⟩, _, rfl, _, rfl, _, _, rfl, .inl (SqL.of e1), _, _, rfl, rfl, ?_⟩
            refine ⟨d, c, (ys0.length : Int) + 1, rfl, S4.dk.dk, by omega, by omega, fun at' H5 f1 f2 D5 b5 => ?_⟩
            have S5 := S4.step hD.1 hD.2 D5 b5
            refine ⟨_, rfl, _, rfl, _, _, rfl, rfl, .inl (by decide), ?_⟩
            refine ⟨d, c, 2 * many, rfl, S5.dk.dk, by omega, by omega, fun lit H6 f3 f4 D6 b6 => ?_⟩
            have S6 := S5.step hD.1 hD.2 D6 b6
            refine ⟨(by show 2 ≤ sizeLine; decide), fun p15 np15 => ?_⟩
            refine ⟨(by show 1 ≤ sizeLine; decide), fun p16 np16 => ?_⟩
            have S7 := (S6.new np15).new (o := .tup [.ref p15]) np16
            have n56 : p15 ≠ p16 := ne_of_none upd_same np16
            refine ⟨_, rfl, ?_⟩
            refine ⟨d, c, 2, rfl, S7.dk.dk, by decide, by decide, fun dg H8 f5 f6 D8 b8 => ?_⟩
            have t8 := S7.dk.dk.tups b8
            have S8 := S7.step hD.1 hD.2 D8 b8
            have h15 := t8 p15 _ (by rw [upd_ne n56]; exact upd_same)
            have h16 := t8 p16 _ upd_same
            refine ⟨_, _, rfl, rfl, (by show 2 ≤ sizeLine; decide), fun p17 np17 => ?_⟩
            have S9 := S8.new (o := .tup [.ref p16, .int (1 + dg)]) np17
            have t9 : Tups H8 (upd H8 p17 (.tup [.ref p16, .int (1 + dg)])) := Tups.new (Tups.refl H8) np17
            obtain ⟨sums1, ys1, g1, g2, g3, g4⟩ := id S9.ex
            have hyl1 := g2.length
            rw [List.length_map] at hyl1
            refine ⟨_, _, _, _, rfl, rfl, g1, small1000 (by omega), f1, by omega, ?_⟩
            refine ⟨rfl, S9.dk.set nD10 hD.1 hD.2, sums1.take at'.toNat ++ [([(lit, 2)], 1 + dg)] ++ sums1.drop at'.toNat, _, upd_same, ?_, ?_, fun s hs => ?_⟩
            · have tt := Tups.set (o := .lst (ys1.take at'.toNat ++ [.ref p17] ++ ys1.drop at'.toNat)) g1
              have g2 := g2.mono tt
              rw [List.map_append, List.map_append, List.map_take, List.map_drop]
              refine DAs.append (DAs.append (g2.take _) (.cons (.tup (tt _ _ upd_same) (.cons (.tup (tt _ _ (t9 _ _ h16)) (.cons (DA.ofTm (q := (lit, 2)) (tt _ _ (t9 _ _ h15))) .nil)) (.cons (.int _) .nil))) .nil)) (g2.drop _)
            · rw [List.length_append, List.length_append, List.length_take, List.length_drop]
              show _ + 1 + _ ≤ 11
              omega
            · rcases List.mem_append.mp hs with q | q
              · rcases List.mem_append.mp q with q | q
                · exact g4 s (List.mem_of_mem_take q)
                · rw [List.mem_singleton.mp q]
                  refine ⟨⟨by show 1 ≤ 12; decide, fun q hq => ?_⟩, by show -1000000 ≤ 1 + dg; omega, by show 1 + dg ≤ 1000000; omega⟩
                  rw [List.mem_singleton.mp hq]
                  exact ⟨f3, by show lit ≤ 1000; omega, (by decide : (0 : Int) ≤ 2), (by decide : (2 : Int) ≤ 1000)⟩
              · exact g4 s (List.mem_of_mem_drop q)
          · exact ⟨rfl, S4.more (by omega)⟩
        · rintro σ' H' ⟨rfl, S5⟩
          refine ⟨fun σ' H' => ∃ (pr : Option (Tm × Int)) (xp : V) (z10 z11 : Option V), σ' = [some (.ref d), some (.int many), some (.ref D1), some (.int kind), z4, z5, z6, z7, z8, some xp, z10, z11] ∧ Sums d c H H' D1 11 ∧ DA H' xp (dPr pr) ∧ ∀ q, pr = some q → SmOk q, ?_, ?_⟩
          · refine ⟨_, rfl, ?_⟩
            refine ⟨d, c, 3, rfl, S5.dk.dk, by decide, by decide, fun r6 H6 f1 f2 D6 b6 => ?_⟩
            have S6 := S5.step hD.1 hD.2 D6 b6
            refine ⟨_, _, rfl, rfl, _, rfl, ?_⟩
            refine ite2 (fun h18 => ?_) (fun h18 => ?_)
            · refine ⟨_, rfl, many, rfl, by omega, by omega, fun D19 nD19 => lc_range (lo := 0) (n := many.toNat) (fun i H7 => Sums d c H H7 D1 11 ∧ ∃ (tm : Tm) (ys : List V), H7 D19 = some (.lst ys) ∧ DAs H7 ys (tm.map dTm) ∧ tm.length ≤ i ∧ ∀ q ∈ tm, 0 ≤ q.1 ∧ q.1 ≤ 1000 ∧ 0 ≤ q.2 ∧ q.2 ≤ 1000) ?_ ?_ ?_⟩
              · exact ⟨S6.new nD19, [], [], upd_same, .nil, Nat.zero_le _, fun q hq => by cases hq⟩
              · rintro i H7 hi ⟨S7, tm, ys, hl, hys, hlen, hq⟩
                have hyl := hys.length
                rw [List.length_map] at hyl
                have hE := S6.dk.dk.ref nD19
                have nE := S6.dk.free nD19
                have nED : D19 ≠ D1 := by
                  obtain ⟨_, _, e1, _⟩ := S6.ex
                  exact (ne_of_none e1 nD19).symm
                refine ⟨rfl, _, rfl, ?_⟩
                refine ⟨d, c, 3, rfl, S7.dk.dk, by decide, by decide, fun r8 H8 f3 f4 D8 b8 => ?_⟩
                have S8 := S7.step hD.1 hD.2 D8 b8
                have t8 := S7.dk.dk.tups b8
                have hl8 := b8 _ _ hE.1 hE.2 hl
                refine ⟨_, _, rfl, rfl, _, rfl, ?_⟩
                refine ite2 (fun h19 => ?_) (fun h19 => ?_)
                · refine ⟨_, rfl, _, _, rfl, rfl, .inl (by decide), _, rfl, ?_⟩
                  refine ⟨d, c, 2, rfl, S8.dk.dk, by decide, by decide, fun r9 H9 f5 f6 D9 b9 => ?_⟩
                  have S9 := S8.step hD.1 hD.2 D9 b9
                  have t9 := S8.dk.dk.tups b9
                  have hl9 := b9 _ _ hE.1 hE.2 hl8
                  refine ⟨_, _, rfl, rfl, _, rfl, ?_⟩
                  refine ⟨d, c, 5, rfl, S9.dk.dk, by decide, by decide, fun r10 H10 f7 f8 D10 b10 => ?_⟩
                  have S10 := S9.step hD.1 hD.2 D10 b10
                  have t10 := S9.dk.dk.tups b10
                  have hl10 := b10 _ _ hE.1 hE.2 hl9
                  refine ⟨_, _, rfl, rfl, (by show 2 ≤ sizeLine; decide), fun p20 np20 => ?_⟩
                  have n20 : D19 ≠ p20 := ne_of_none hl10 np20
                  have S11 := S10.new (o := .tup [.int (2 * (0 + (i : Int)) + r9), .int (1 + r10)]) np20
                  have hl11 : upd H10 p20 (.tup [.int (2 * (0 + (i : Int)) + r9), .int (1 + r10)]) D19 = some (.lst ys) := by rw [upd_ne n20]; exact hl10
                  have t11 : Tups H10 (upd (upd H10 p20 (.tup [.int (2 * (0 + (i : Int)) + r9), .int (1 + r10)])) D19 (.lst (ys ++ [.ref p20]))) := (Tups.new (Tups.refl H10) np20).trans (Tups.set hl11)
                  obtain ⟨sums1, ys1, g1, g2, g3, g4⟩ := id S11.ex
                  refine ⟨_, hl11, small1000 (by omega), ⟨S11.dk.set nE hE.1 hE.2, sums1, ys1, by rw [upd_ne nED.symm]; exact g1, g2.mono (Tups.set hl11), g3, g4⟩, tm ++ [(2 * (0 + (i : Int)) + r9, 1 + r10)], _, upd_same, ?_, by rw [List.length_append]; show tm.length + 1 ≤ _; omega, fun q hq' => ?_⟩
                  · rw [List.map_append]
                    exact DAs.snoc (hys.mono (((t8.trans t9).trans t10).trans t11)) (DA.ofTm (by rw [upd_ne n20.symm]; exact upd_same))
                  · rcases List.mem_append.mp hq' with q' | q'
                    · exact hq q q'
                    · rw [List.mem_singleton.mp q']
                      refine ⟨?_, ?_, ?_, ?_⟩
                      · show 0 ≤ 2 * (0 + (i : Int)) + r9; omega
                      · show 2 * (0 + (i : Int)) + r9 ≤ 1000; omega
                      · show 0 ≤ 1 + r10; omega
                      · show 1 + r10 ≤ 1000; omega
                · exact ⟨S8, tm, ys, hl8, hys.mono t8, by omega, hq⟩
              · rintro H7 ⟨S7, tm, ys, hl, hys, hlen, hq⟩
                have hE := S6.dk.dk.ref nD19
                refine ⟨_, rfl, _, _, rfl, .inl ⟨SqL.of hl, fun p20 np20 => ?_⟩⟩
                have S8 := S7.new (o := .tup ys) np20
                refine ⟨_, rfl, ?_⟩
                refine ⟨d, c, 9, rfl, S8.dk.dk, by decide, by decide, fun r9 H9 f5 f6 D9 b9 => ?_⟩
                have S9 := S8.step hD.1 hD.2 D9 b9
                have t9 := S8.dk.dk.tups b9
                refine ⟨_, _, rfl, rfl, (by show 2 ≤ sizeLine; decide), fun p21 np21 => ?_⟩
                have t10 : Tups H9 (upd H9 p21 (.tup [.ref p20, .int (r9 - 4)])) := Tups.new (Tups.refl H9) np21
                refine ⟨some (tm, r9 - 4), .ref p21, _, _, rfl, S9.new np21, .tup upd_same (.cons (.tup (t10 _ _ (t9 _ _ upd_same)) (((hys.mono (Tups.new (Tups.refl H7) np20)).mono t9).mono t10)) (.cons (.int _) .nil)), fun q e => ?_⟩
                cases e
                exact ⟨⟨by show tm.length ≤ 12; omega, hq⟩, by show -1000000 ≤ r9 - 4; omega, by show r9 - 4 ≤ 1000000; omega⟩
            · exact ⟨none, .non, _, _, rfl, S6, .non, fun q e => by cases e⟩
          · rintro σ' H' ⟨pr, xp, z10, z11, rfl, S6, hxp, hpr⟩
            obtain ⟨sums1, ys1, g1, g2, g3, g4⟩ := id S6.ex
            refine ⟨_, rfl, _, rfl, _, _, rfl, .inl ⟨SqL.of g1, fun p22 np22 => ?_⟩⟩
            have S7 := S6.new (o := .tup ys1) np22
            have t7 : Tups H' (upd H' p22 (.tup ys1)) := Tups.new (Tups.refl H') np22
            refine ⟨_, rfl, (by show 3 ≤ sizeLine; decide), fun p23 np23 => ?_⟩
            have t8 : Tups (upd H' p22 (.tup ys1)) (upd (upd H' p22 (.tup ys1)) p23 (.tup [.int many, .ref p22, xp])) := Tups.new (Tups.refl _) np23
            refine k _ (many, sums1, pr) _ (.tup upd_same (.cons (.int _) (.cons (.tup (t8 _ _ upd_same) ((g2.mono t7).mono t8)) (.cons ((hxp.mono t7).mono t8) .nil)))) ⟨m1, m2, g3, g4, hpr⟩ (S7.new np23).dk.dk (S7.new np23).dk.bt
    · let turns : Int := 0
      have ht3 : turns ≤ 3 := by show (0 : Int) ≤ 3; decide
      have q1 : 0 ≤ turns := by show (0 : Int) ≤ 0; decide
      have hm1' : 0 < turns → 1 < many := fun h => absurd (show (0 : Int) < 0 from h) (by decide)
      refine ⟨turns, rfl, by omega, by omega, for_range (lo := 0) (n := turns.toNat) (fun i σ' H' => ∃ (z4 z5 z6 z7 z8 : Option V), σ' = [some (.ref d), some (.int many), some (.ref D1), some (.int kind), z4, z5, z6, z7, z8, none, none, none] ∧ Sums d c H H' D1 (4 + 2 * i)) ⟨none, none, none, none, none, rfl, S3⟩ ?_ ?_⟩
      · rintro i σ' H' hi ⟨z4, z5, z6, z7, z8, rfl, S4⟩
        have hm1 : 1 < many := hm1' (by omega)
        have hi3 : i < 3 := by omega
        refine ⟨_, rfl, _, rfl, ?_⟩
        refine ⟨d, c, many, rfl, S4.dk.dk, by omega, by omega, fun first H5 f1 f2 D5 b5 => ?_⟩
        have S5 := S4.step hD.1 hD.2 D5 b5
        refine ⟨_, rfl, _, _, rfl, rfl, _, rfl, _, rfl, _, _, rfl, rfl, ?_⟩
        refine ⟨d, c, many - 1, rfl, S5.dk.dk, by omega, by omega, fun r6 H6 f3 f4 D6 b6 => ?_⟩
        have S6 := S5.step hD.1 hD.2 D6 b6
        refine ⟨_, _, rfl, rfl, .inl ⟨_, rfl, ?_⟩⟩
        have hsec := fmod_lt (a := first + 1 + r6) (b := many) (by omega)
        refine ⟨_, rfl, _, _, rfl, rfl, (by omega), _, rfl, _, _, rfl, rfl, .inl (by decide), _, rfl, ?_⟩
        refine ⟨d, c, 2, rfl, S6.dk.dk, by decide, by decide, fun r7 H7 f5 f6 D7 b7 => ?_⟩
        have S7 := S6.step hD.1 hD.2 D7 b7
        refine ⟨_, _, rfl, rfl, _, rfl, _, _, rfl, rfl, .inl (by decide), _, rfl, ?_⟩
        refine ⟨d, c, 2, rfl, S7.dk.dk, by decide, by decide, fun r8 H8 f7 f8 D8 b8 => ?_⟩
        have S8 := S7.step hD.1 hD.2 D8 b8
        have one0 : 0 ≤ 2 * first + r7 := by omega
        have one1 : 2 * first + r7 < 24 := by omega
        have oth0 : 0 ≤ 2 * (first + 1 + r6).fmod many + r8 := by omega
        have oth1 : 2 * (first + 1 + r6).fmod many + r8 < 24 := by omega
        obtain ⟨sums0, ys0, e1, e2, e3, e4⟩ := id S8.ex
        refine ⟨_, _, rfl, rfl, _, _, rfl, _, rfl, .inl ⟨rfl, _, SqL.of e1⟩, _, rfl, (by show 2 ≤ sizeLine; decide), fun p3 np3 => ?_⟩
        refine ⟨_, rfl, (by show 2 ≤ sizeLine; decide), fun p4 np4 => ?_⟩
        refine ⟨(by show 2 ≤ sizeLine; decide), fun p5 np5 => ?_⟩
        have n34 : p3 ≠ p4 := ne_of_none upd_same np4
        have n45 : p4 ≠ p5 := ne_of_none upd_same np5
        have n35 : p3 ≠ p5 := ne_of_none (by rw [upd_ne n34]; exact upd_same) np5
        refine ⟨_, _, rfl, SqL.of upd_same, fun x hx => ?_, fun zs p6 hperm np6 => ?_⟩
        · rcases List.mem_cons.mp hx with rfl | hx
          · exact ⟨p3, _, _, rfl, by rw [upd_ne n35, upd_ne n34]; exact upd_same⟩
          · rw [List.mem_singleton.mp hx]
            exact ⟨p4, _, _, rfl, by rw [upd_ne n45]; exact upd_same⟩
        refine ⟨_, _, rfl, .inl ⟨SqL.of upd_same, fun p7 np7 => ?_⟩⟩
        refine ⟨(by show 2 ≤ sizeLine; decide), fun p8 np8 => ?_⟩
        obtain ⟨ys, hl, hlen, S9⟩ := Sums.pair S8 hD.1 hD.2 nD10 one0 (by omega) oth0 (by omega) np3 np4 np5 hperm np6 np7 np8
        refine ⟨_, _, _, rfl, rfl, hl, small1000 (by omega), ?_⟩
        refine ⟨_, rfl, _, _, rfl, rfl, _, rfl, ?_⟩
        refine ite2 (fun h8 => ?_) (fun h8 => ?_)
        · obtain ⟨sums0, ys0, e1, e2, e3, e4⟩ := id S9.ex
          have x1 := xor_ok one0 one1
          have x2 := xor_ok oth0 oth1
          refine ⟨_, rfl, .inl ⟨rfl, _, SqL.of upd_same⟩, _, rfl, _, _, rfl, rfl, (by show 2 ≤ sizeLine; decide), fun p3 np3 => ?_⟩
          refine ⟨_, rfl, _, _, rfl, rfl, (by show 2 ≤ sizeLine; decide), fun p4 np4 => ?_⟩
          refine ⟨(by show 2 ≤ sizeLine; decide), fun p5 np5 => ?_⟩
          have n34 : p3 ≠ p4 := ne_of_none upd_same np4
          have n45 : p4 ≠ p5 := ne_of_none upd_same np5
          have n35 : p3 ≠ p5 := ne_of_none (by rw [upd_ne n34]; exact upd_same) np5
          refine ⟨_, _, rfl, SqL.of upd_same, fun x hx => ?_, fun zs p6 hperm np6 => ?_⟩
          · rcases List.mem_cons.mp hx with rfl | hx
            · exact ⟨p3, _, _, rfl, by rw [upd_ne n35, upd_ne n34]; exact upd_same⟩
            · rw [List.mem_singleton.mp hx]
              exact ⟨p4, _, _, rfl, by rw [upd_ne n45]; exact upd_same⟩
          refine ⟨_, _, rfl, .inl ⟨SqL.of upd_same, fun p7 np7 => ?_⟩⟩
          refine ⟨(by show 2 ≤ sizeLine; decide), fun p8 np8 => ?_⟩
          obtain ⟨ys, hl, hlen, S10⟩ := Sums.pair S9 hD.1 hD.2 nD10 x1.1 x1.2 x2.1 x2.2 np3 np4 np5 hperm np6 np7 np8
          refine ⟨_, _, _, rfl, rfl, hl, small1000 (by omega), ?_⟩
          exact ⟨_, _, _, _, _, rfl, S10.more (by omega)⟩
        · exact ⟨_, _, _, _, _, rfl, S9.more (by omega)⟩
      · rintro σ' H' ⟨z4, z5, z6, z7, z8, rfl, S4⟩
        have S4 : Sums d c H H' D1 10 := S4.more (by omega)
        refine ⟨fun σ' H' => σ' = [some (.ref d), some (.int many), some (.ref D1), some (.int kind), z4, z5, z6, z7, z8, none, none, none] ∧ Sums d c H H' D1 11, ?_, ?_⟩
        · refine ⟨_, rfl, rfl, _, rfl, ?_⟩
          refine ite2 (fun h14 => ?_) (fun h14 => ?_)
          · obtain ⟨sums0, ys0, e1, e2, e3, e4⟩ := id S4.ex
            have hyl := e2.length
            rw [List.length_map] at hyl
            refine ⟨_, rfl, .inl ⟨rfl, _, SqL.of e1⟩, _, rfl, _, rfl, _, _, rfl, .inl (SqL.of e1), _, _, rfl, rfl, ?_⟩
            refine ⟨d, c, (ys0.length : Int) + 1, rfl, S4.dk.dk, by omega, by omega, fun at' H5 f1 f2 D5 b5 => ?_⟩
            have S5 := S4.step hD.1 hD.2 D5 b5
            refine ⟨_, rfl, _, rfl, _, _, rfl, rfl, .inl (by decide), ?_⟩
            refine ⟨d, c, 2 * many, rfl, S5.dk.dk, by omega, by omega, fun lit H6 f3 f4 D6 b6 => ?_⟩
            have S6 := S5.step hD.1 hD.2 D6 b6
            refine ⟨(by show 2 ≤ sizeLine; decide), fun p15 np15 => ?_⟩
            refine ⟨(by show 1 ≤ sizeLine; decide), fun p16 np16 => ?_⟩
            have S7 := (S6.new np15).new (o := .tup [.ref p15]) np16
            have n56 : p15 ≠ p16 := ne_of_none upd_same np16
            refine ⟨_, rfl, ?_⟩
            refine ⟨d, c, 2, rfl, S7.dk.dk, by decide, by decide, fun dg H8 f5 f6 D8 b8 => ?_⟩
            have t8 := S7.dk.dk.tups b8
            have S8 := S7.step hD.1 hD.2 D8 b8
            have h15 := t8 p15 _ (by rw [upd_ne n56]; exact upd_same)
            have h16 := t8 p16 _ upd_same
            refine ⟨_, _, rfl, rfl, (by show 2 ≤ sizeLine; decide), fun p17 np17 => ?_⟩
            have S9 := S8.new (o := .tup [.ref p16, .int (1 + dg)]) np17
            have t9 : Tups H8 (upd H8 p17 (.tup [.ref p16, .int (1 + dg)])) := Tups.new (Tups.refl H8) np17
            obtain ⟨sums1, ys1, g1, g2, g3, g4⟩ := id S9.ex
            have hyl1 := g2.length
            rw [List.length_map] at hyl1
            refine ⟨_, _, _, _, rfl, rfl, g1, small1000 (by omega), f1, by omega, ?_⟩
            refine ⟨rfl, S9.dk.set nD10 hD.1 hD.2, sums1.take at'.toNat ++ [([(lit, 2)], 1 + dg)] ++ sums1.drop at'.toNat, _, upd_same, ?_, ?_, fun s hs => ?_⟩
            · have tt := Tups.set (o := .lst (ys1.take at'.toNat ++ [.ref p17] ++ ys1.drop at'.toNat)) g1
              have g2 := g2.mono tt
              rw [List.map_append, List.map_append, List.map_take, List.map_drop]
              refine DAs.append (DAs.append (g2.take _) (.cons (.tup (tt _ _ upd_same) (.cons (.tup (tt _ _ (t9 _ _ h16)) (.cons (DA.ofTm (q := (lit, 2)) (tt _ _ (t9 _ _ h15))) .nil)) (.cons (.int _) .nil))) .nil)) (g2.drop _)
            · rw [List.length_append, List.length_append, List.length_take, List.length_drop]
              show _ + 1 + _ ≤ 11
              omega
            · rcases List.mem_append.mp hs with q | q
              · rcases List.mem_append.mp q with q | q
                · exact g4 s (List.mem_of_mem_take q)
                · rw [List.mem_singleton.mp q]
                  refine ⟨⟨by show 1 ≤ 12; decide, fun q hq => ?_⟩, by show -1000000 ≤ 1 + dg; omega, by show 1 + dg ≤ 1000000; omega⟩
                  rw [List.mem_singleton.mp hq]
                  exact ⟨f3, by show lit ≤ 1000; omega, (by decide : (0 : Int) ≤ 2), (by decide : (2 : Int) ≤ 1000)⟩
              · exact g4 s (List.mem_of_mem_drop q)
          · exact ⟨rfl, S4.more (by omega)⟩
        · rintro σ' H' ⟨rfl, S5⟩
          refine ⟨fun σ' H' => ∃ (pr : Option (Tm × Int)) (xp : V) (z10 z11 : Option V), σ' = [some (.ref d), some (.int many), some (.ref D1), some (.int kind), z4, z5, z6, z7, z8, some xp, z10, z11] ∧ Sums d c H H' D1 11 ∧ DA H' xp (dPr pr) ∧ ∀ q, pr = some q → SmOk q, ?_, ?_⟩
          · refine ⟨_, rfl, ?_⟩
            refine ⟨d, c, 3, rfl, S5.dk.dk, by decide, by decide, fun r6 H6 f1 f2 D6 b6 => ?_⟩
            have S6 := S5.step hD.1 hD.2 D6 b6
            refine ⟨_, _, rfl, rfl, _, rfl, ?_⟩
            refine ite2 (fun h18 => ?_) (fun h18 => ?_)
            · refine ⟨_, rfl, many, rfl, by omega, by omega, fun D19 nD19 => lc_range (lo := 0) (n := many.toNat) (fun i H7 => Sums d c H H7 D1 11 ∧ ∃ (tm : Tm) (ys : List V), H7 D19 = some (.lst ys) ∧ DAs H7 ys (tm.map dTm) ∧ tm.length ≤ i ∧ ∀ q ∈ tm, 0 ≤ q.1 ∧ q.1 ≤ 1000 ∧ 0 ≤ q.2 ∧ q.2 ≤ 1000) ?_ ?_ ?_⟩
              · exact ⟨S6.new nD19, [], [], upd_same, .nil, Nat.zero_le _, fun q hq => by cases hq⟩
              · rintro i H7 hi ⟨S7, tm, ys, hl, hys, hlen, hq⟩
                have hyl := hys.length
                rw [List.length_map] at hyl
                have hE := S6.dk.dk.ref nD19
                have nE := S6.dk.free nD19
                have nED : D19 ≠ D1 := by
                  obtain ⟨_, _, e1, _⟩ := S6.ex
                  exact (ne_of_none e1 nD19).symm
                refine ⟨rfl, _, rfl, ?_⟩
                refine ⟨d, c, 3, rfl, S7.dk.dk, by decide, by decide, fun r8 H8 f3 f4 D8 b8 => ?_⟩
                have S8 := S7.step hD.1 hD.2 D8 b8
                have t8 := S7.dk.dk.tups b8
                have hl8 := b8 _ _ hE.1 hE.2 hl
                refine ⟨_, _, rfl, rfl, _, rfl, ?_⟩
                refine ite2 (fun h19 => ?_) (fun h19 => ?_)
                · refine ⟨_, rfl, _, _, rfl, rfl, .inl (by decide), _, rfl, ?_⟩
                  refine ⟨d, c, 2, rfl, S8.dk.dk, by decide, by decide, fun r9 H9 f5 f6 D9 b9 => ?_⟩
                  have S9 := S8.step hD.1 hD.2 D9 b9
                  have t9 := S8.dk.dk.tups b9
                  have hl9 := b9 _ _ hE.1 hE.2 hl8
                  refine ⟨_, _, rfl, rfl, _, rfl, ?_⟩
                  refine ⟨d, c, 5, rfl, S9.dk.dk, by decide, by decide, fun r10 H10 f7 f8 D10 b10 => ?_⟩
                  have S10 := S9.step hD.1 hD.2 D10 b10
                  have t10 := S9.dk.dk.tups b10
                  have hl10 := b10 _ _ hE.1 hE.2 hl9
                  refine ⟨_, _, rfl, rfl, (by show 2 ≤ sizeLine; decide), fun p20 np20 => ?_⟩
                  have n20 : D19 ≠ p20 := ne_of_none hl10 np20
                  have S11 := S10.new (o := .tup [.int (2 * (0 + (i : Int)) + r9), .int (1 + r10)]) np20
                  have hl11 : upd H10 p20 (.tup [.int (2 * (0 + (i : Int)) + r9), .int (1 + r10)]) D19 = some (.lst ys) := by rw [upd_ne n20]; exact hl10
                  have t11 : Tups H10 (upd (upd H10 p20 (.tup [.int (2 * (0 + (i : Int)) + r9), .int (1 + r10)])) D19 (.lst (ys ++ [.ref p20]))) := (Tups.new (Tups.refl H10) np20).trans (Tups.set hl11)
                  obtain ⟨sums1, ys1, g1, g2, g3, g4⟩ := id S11.ex
                  refine ⟨_, hl11, small1000 (by omega), ⟨S11.dk.set nE hE.1 hE.2, sums1, ys1, by rw [upd_ne nED.symm]; exact g1, g2.mono (Tups.set hl11), g3, g4⟩, tm ++ [(2 * (0 + (i : Int)) + r9, 1 + r10)], _, upd_same, ?_, by rw [List.length_append]; show tm.length + 1 ≤ _; omega, fun q hq' => ?_⟩
                  · rw [List.map_append]
                    exact DAs.snoc (hys.mono (((t8.trans t9).trans t10).trans t11)) (DA.ofTm (by rw [upd_ne n20.symm]; exact upd_same))
                  · rcases List.mem_append.mp hq' with q' | q'
                    · exact hq q q'
                    · rw [List.mem_singleton.mp q']
                      refine ⟨?_, ?_, ?_, ?_⟩
                      · show 0 ≤ 2 * (0 + (i : Int)) + r9; omega
                      · show 2 * (0 + (i : Int)) + r9 ≤ 1000; omega
                      · show 0 ≤ 1 + r10; omega
                      · show 1 + r10 ≤ 1000; omega
                · exact ⟨S8, tm, ys, hl8, hys.mono t8, by omega, hq⟩
              · rintro H7 ⟨S7, tm, ys, hl, hys, hlen, hq⟩
                have hE := S6.dk.dk.ref nD19
                refine ⟨_, rfl, _, _, rfl, .inl ⟨SqL.of hl, fun p20 np20 => ?_⟩⟩
                have S8 := S7.new (o := .tup ys) np20
                refine ⟨_, rfl, ?_⟩
                refine ⟨d, c, 9, rfl, S8.dk.dk, by decide, by decide, fun r9 H9 f5 f6 D9 b9 => ?_⟩
                have S9 := S8.step hD.1 hD.2 D9 b9
                have t9 := S8.dk.dk.tups b9
                refine ⟨_, _, rfl, rfl, (by show 2 ≤ sizeLine; decide), fun p21 np21 => ?_⟩
                have t10 : Tups H9 (upd H9 p21 (.tup [.ref p20, .int (r9 - 4)])) := Tups.new (Tups.refl H9) np21
                refine ⟨some (tm, r9 - 4), .ref p21, _, _, rfl, S9.new np21, .tup upd_same (.cons (.tup (t10 _ _ (t9 _ _ upd_same)) (((hys.mono (Tups.new (Tups.refl H7) np20)).mono t9).mono t10)) (.cons (.int _) .nil)), fun q e => ?_⟩
                cases e
                exact ⟨⟨by show tm.length ≤ 12; omega, hq⟩, by show -1000000 ≤ r9 - 4; omega, by show r9 - 4 ≤ 1000000; omega⟩
            · exact ⟨none, .non, _, _, rfl, S6, .non, fun q e => by cases e⟩
          · rintro σ' H' ⟨pr, xp, z10, z11, rfl, S6, hxp, hpr⟩
            obtain ⟨sums1, ys1, g1, g2, g3, g4⟩ := id S6.ex
            refine ⟨_, rfl, _, rfl, _, _, rfl, .inl ⟨SqL.of g1, fun p22 np22 => ?_⟩⟩
            have S7 := S6.new (o := .tup ys1) np22
            have t7 : Tups H' (upd H' p22 (.tup ys1)) := Tups.new (Tups.refl H') np22
            refine ⟨_, rfl, (by show 3 ≤ sizeLine; decide), fun p23 np23 => ?_⟩
            have t8 : Tups (upd H' p22 (.tup ys1)) (upd (upd H' p22 (.tup ys1)) p23 (.tup [.int many, .ref p22, xp])) := Tups.new (Tups.refl _) np23
            refine k _ (many, sums1, pr) _ (.tup upd_same (.cons (.int _) (.cons (.tup (t8 _ _ upd_same) ((g2.mono t7).mono t8)) (.cons ((hxp.mono t7).mono t8) .nil)))) ⟨m1, m2, g3, g4, hpr⟩ (S7.new np23).dk.dk (S7.new np23).dk.bt
end
end K77
namespace K77
open PySem PySem.Spec PyProof.Rows L2
open C8 (pss_cut)
def spSpread : Sp := fun vs H Q _ => ∃ (d c a : Addr) (ws : List Wd), vs = [.ref d, .ref a] ∧ DeckAt d c H ∧ LW H a ws ∧ a ≠ d ∧ a ≠ c ∧ WsOk 703 14 ws ∧
  ∀ t H', t.length < 60000 → t.count 59 ≤ 14 → DeckAt d c H' → But d c H H' → Q (.str (S t)) H'
/-- a text made of words so far -/
structure Tx (ws : List Wd) (i : Nat) (t : Wd) : Prop where
  len : t.length ≤ 2 + 66 * i
  cnt : t.count 59 ≤ sc (ws.take i)
theorem sc_take {ws : List Wd} {i : Nat} {x : Wd} (h : ws[i]? = some x) : sc (ws.take (i + 1)) = sc (ws.take i) + x.count 59 := by
  rw [take_snoc h, sc_app]
  unfold sc
  simp
theorem Tx.next {ws : List Wd} {i : Nat} {t x b : Wd} (h : Tx ws i t) (hx : ws[i]? = some x) (lx : x.length ≤ 64) (lb : b.length ≤ 2) (cb : b.count 59 = 0) : Tx ws (i + 1) (t ++ b ++ x) := by
  obtain ⟨h1, h2⟩ := h
  refine ⟨by rw [List.length_append, List.length_append]; omega, ?_⟩
  rw [List.count_append, List.count_append, sc_take hx]
  omega
theorem sel3 {r : Int} {a b e : V} (h0 : 0 ≤ r) (h1 : r < 3) : ∃ v, atI [a, b, e] r = some v ∧ (v = a ∨ v = b ∨ v = e) := by
  have : r = 0 ∨ r = 1 ∨ r = 2 := by omega
  rcases this with rfl | rfl | rfl
  · exact ⟨a, rfl, .inl rfl⟩
  · exact ⟨b, rfl, .inr (.inl rfl)⟩
  · exact ⟨e, rfl, .inr (.inr rfl)⟩
theorem sel_len {r : Int} {xs : List V} (h0 : 0 ≤ r) (h1 : r < xs.length) : ∃ v, atI xs r = some v ∧ v ∈ xs := by
  obtain ⟨n, rfl⟩ := Int.eq_ofNat_of_zero_le h0
  obtain ⟨v, hv⟩ := get_some (l := xs) (i := n) (by omega)
  exact ⟨v, atI_nat hv, List.mem_of_getElem? hv⟩
theorem lastAt {t : Wd} (h : t ≠ []) : ∃ c, atI (S t).cps.toList (-1) = some c := by
  have e : t = t.dropLast ++ [t.getLast h] := (List.dropLast_concat_getLast h).symm
  refine ⟨t.getLast h, ?_⟩
  show atI t (-1) = _
  conv => lhs; rw [e]
  exact atI_last _ _
theorem z_sp : (PySem.Str.ofString " ") = S [32] := by decide +kernel
theorem z_nlsp : (PySem.Str.ofString "\n ") = S [10, 32] := by decide +kernel
theorem z_nl : (PySem.Str.ofString "\n") = S [10] := by decide +kernel
theorem z_spsp : (PySem.Str.ofString "  ") = S [32, 32] := by decide +kernel
section
variable {P : Program} {w : World} {K : PySem.W.Frag} {mg : Str → Option Value} {base : Heap}
theorem ok_l_spread (T : Txt P K mg) : FnOk P w K mg base CX0 2 (He.fAd K ("_law_spread", none)) (fdO K ("_law_spread", none)) ["deck", "words"] spSpread := by
  refine T.F_l_spread.ok sc_l_spread (fun vs H Q E h => ?_) (fun cdv A outer s H vs Q E hr h => ?_)
  · obtain ⟨d, c, a, ws, rfl, _⟩ := h
    rfl
  obtain ⟨d, c, a, ws, rfl, D0, hL, had, hac, hw, k⟩ := h
  refine ⟨_, PSs.nox (pss_cons (ps_par3 (i := 2) (j := 3) (l := 4) (by rfl) sc_l_spread.nd rfl rfl rfl (by decide) (by decide) (by decide) rfl rfl rfl (pa_cons pe_str (pa_cons (pe_ix ix_list (pe_lst (pa_cons pe_str (pa_cons pe_str (pa_cons pe_str pa_nil)))) (pe_call (ok_l_pick T) hr rfl T.g__law_pick T.F_l_pick.kp (b_l_pick T) .nil pass0 (pa_cons (pv 0) (pa_cons pe_int pa_nil))) (fun _ _ => rfl)) (pa_cons pe_str pa_nil))) (by rfl))
    (pss_cons (ps_for PassesOwn.never rfl (pi_list (pv 1)) (pg_name (i := 5) sc_l_spread.nd rfl (Or.inl rfl))
      (pss_cons (ps_set (i := 6) sc_l_spread.nd rfl (Or.inl rfl) (pe_ix ix_list (pe_lst (pa_cons pe_str (pa_cons pe_str (pa_cons pe_str (pa_cons pe_str (pa_cons pe_str pa_nil)))))) (pe_call (ok_l_pick T) hr rfl T.g__law_pick T.F_l_pick.kp (b_l_pick T) .nil pass0 (pa_cons (pv 0) (pa_cons pe_int pa_nil))) (fun _ _ => rfl)))
      (pss_cut (ps_if (PW.pt (pw_and (pt_cmpR op_eq (pv 6) pe_str (nomark _)) (pw_and (pt_cmpR op_ne (pv 4) pe_str (nomark _)) (pw_and (pt_cmpR op_in_sign (pe_ix ix_str (pv 4) (pe_un un_neg pe_int) (fun _ _ => rfl)) (pv 2) (by rfl)) (pw_and1 (pt_cmpR op_in_sign (pe_ix ix_str (pv 5) pe_int (fun _ _ => rfl)) (pv 2) (by rfl)))))))
        (pss_one (ps_set (i := 6) sc_l_spread.nd rfl (Or.inl rfl) pe_str))
        pss_nil)
      (pss_cons (ps_set (i := 3) sc_l_spread.nd rfl (Or.inl rfl) (pe_op op_add_str (pe_op op_add_str (pv 3) (pv 6)) (pv 5)))
      (pss_one (ps_set (i := 4) sc_l_spread.nd rfl (Or.inl rfl) (pv 5)))))))
    (pss_one (ps_ret (pe_op op_add_str (pv 3) (pe_ix ix_list (pe_lst (pa_cons pe_str (pa_cons pe_str pa_nil))) (pe_call (ok_l_pick T) hr rfl T.g__law_pick T.F_l_pick.kp (b_l_pick T) .nil pass0 (pa_cons (pv 0) (pa_cons pe_int pa_nil))) (fun _ _ => rfl))))))), ?_⟩
  refine ⟨(by show 3 ≤ sizeLine; decide), fun p1 np1 => ?_⟩
  have K1 := (Dk.refl D0).new (o := .lst [.str (PySem.Str.ofString ""), .str (PySem.Str.ofString " "), .str (PySem.Str.ofString "\n ")]) np1
  have hp1 := D0.ref np1
  have ap1 : a ≠ p1 := ne_of_none hL np1
  refine ⟨_, rfl, ?_⟩
  refine ⟨d, c, 3, rfl, K1.dk, by decide, by decide, fun r H1 r1 r2 D1 b1 => ?_⟩
  have K2 := K1.step D1 b1
  have hl1 := b1 _ _ hp1.1 hp1.2 upd_same
  have hLa : LW H1 a ws := b1 _ _ had hac (by rw [upd_ne ap1]; exact hL)
  obtain ⟨v0, hv0, hv0'⟩ := sel3 (a := .str (PySem.Str.ofString "")) (b := .str (PySem.Str.ofString " ")) (e := .str (PySem.Str.ofString "\n ")) r1 r2
  have hv0' : ∃ t0 : Wd, v0 = .str (S t0) ∧ t0.length ≤ 2 ∧ t0.count 59 = 0 := by
    rcases hv0' with rfl | rfl | rfl
    · exact ⟨[], by rw [ze], by decide, by decide⟩
    · exact ⟨[32], by rw [z_sp], by decide, by decide⟩
    · exact ⟨[10, 32], by rw [z_nlsp], by decide, by decide⟩
  obtain ⟨t0, rfl, lt0, ct0⟩ := hv0'
  refine ⟨_, _, _, _, rfl, rfl, SqL.of hl1, hv0, _, _, _, rfl, ?_⟩
  generalize hrun : (PySem.Str.ofString "abcdefghijklmnopqrstuvwxyz0123456789") = rn
  refine ⟨_, rfl, a, rfl, ⟨_, SqL.of hLa⟩, for_list (xs := ws.map vS) (fun i σ' H' => ∃ (t la : Wd) (z5 z6 : Option V), σ' = [some (.ref d), some (.ref a), some (.str rn), some (.str (S t)), some (.str (S la)), z5, z6] ∧ Dk d c H H' ∧ LW H' a ws ∧ Tx ws i t ∧ la.length ≤ 64)
    ⟨t0, [], none, none, by rw [ze]; rfl, K2, hLa, ⟨by omega, by rw [ct0]; exact Nat.zero_le _⟩, by decide⟩ ?_ ?_ ?_⟩
  · rintro i σ' H' hi ⟨t, la, z5, z6, rfl, K3, hL3, hT, hla⟩
    exact SqL.of hL3
  · rintro i y σ' H' hi ⟨t, la, z5, z6, rfl, K3, hL3, hT, hla⟩
    obtain ⟨x, hx, rfl⟩ := map_get hi
    have hil : i < ws.length := (List.getElem?_eq_some_iff.mp hx).1
    obtain ⟨⟨xne, xlen⟩, _⟩ := hw.1 x (List.mem_of_getElem? hx)
    have hwl := hw.2.1
    refine ⟨(by show 5 ≤ sizeLine; decide), fun p2 np2 => ?_⟩
    have K4 := K3.new (o := .lst [.str (PySem.Str.ofString ""), .str (PySem.Str.ofString ""), .str (PySem.Str.ofString " "), .str (PySem.Str.ofString "\n"), .str (PySem.Str.ofString "  ")]) np2
    have hp2 := K3.dk.ref np2
    have ap2 : a ≠ p2 := ne_of_none hL3 np2
    refine ⟨_, rfl, ?_⟩
    refine ⟨d, c, 5, rfl, K4.dk, by decide, by decide, fun r5 H5 q1 q2 D5 b5 => ?_⟩
    have K5 := K4.step D5 b5
    have hl5 := b5 _ _ hp2.1 hp2.2 upd_same
    have hL5 : LW H5 a ws := b5 _ _ had hac (by rw [upd_ne ap2]; exact hL3)
    obtain ⟨v5, hv5, hm5⟩ := sel_len (xs := [.str (PySem.Str.ofString ""), .str (PySem.Str.ofString ""), .str (PySem.Str.ofString " "), .str (PySem.Str.ofString "\n"), .str (PySem.Str.ofString "  ")]) q1 q2
    have hv5' : ∃ b : Wd, v5 = .str (S b) ∧ b.length ≤ 2 ∧ b.count 59 = 0 := by
      rcases List.mem_cons.mp hm5 with rfl | hm5
      · exact ⟨[], by rw [ze], by decide, by decide⟩
      rcases List.mem_cons.mp hm5 with rfl | hm5
      · exact ⟨[], by rw [ze], by decide, by decide⟩
      rcases List.mem_cons.mp hm5 with rfl | hm5
      · exact ⟨[32], by rw [z_sp], by decide, by decide⟩
      rcases List.mem_cons.mp hm5 with rfl | hm5
      · exact ⟨[10], by rw [z_nl], by decide, by decide⟩
      · rw [List.mem_singleton.mp hm5]
        exact ⟨[32, 32], by rw [z_spsp], by decide, by decide⟩
    obtain ⟨b, rfl, lb, cb⟩ := hv5'
    refine ⟨_, _, _, _, rfl, rfl, SqL.of hl5, hv5, ?_⟩
    refine ⟨fun σ' H' => ∃ b : Wd, b.length ≤ 2 ∧ b.count 59 = 0 ∧ H' = H5 ∧ σ' = [some (.ref d), some (.ref a), some (.str rn), some (.str (S t)), some (.str (S la)), some (vS x), some (.str (S b))], ?_, ?_⟩
    · refine ⟨_, rfl, rfl, _, rfl, ?_⟩
      refine ite2 (fun h3 => ?_) (fun h3 => ?_)
      · refine ⟨_, rfl, rfl, _, rfl, ?_⟩
        refine ite2 (fun h4 => ?_) (fun h4 => ?_)
        · have lane : la ≠ [] := fun z => by
            have : decide (V.str (S la) = V.str (PySem.Str.ofString "")) = true := decide_eq_true ((strIs ze).mpr z)
            rw [show (!decide (V.str (S la) = V.str (PySem.Str.ofString ""))) = false by rw [this]; rfl] at h4
            cases h4
          obtain ⟨cl, hcl⟩ := lastAt lane
          obtain ⟨cx, hcx⟩ := get_some (l := x) (i := 0) (by cases x with | nil => exact absurd rfl xne | cons a b => simp)
          refine ⟨_, rfl, _, rfl, _, _, cl, rfl, rfl, (by rw [S_len]; exact Nat.le_trans hla (by decide)), hcl, _, rfl, _, _, rfl, rfl, _, rfl, ?_⟩
          refine ite2 (fun h5 => ?_) (fun h5 => ?_)
          · refine ⟨_, rfl, _, _, cx, rfl, rfl, (by rw [S_len]; exact Nat.le_trans xlen (by decide)), S_at hcx, _, rfl, _, _, rfl, rfl, _, rfl, ?_⟩
            refine ite2 (fun h6 => ?_) (fun h6 => ?_)
            · exact ⟨[32], by decide, by decide, rfl, by rw [z_sp]; rfl⟩
            · exact ⟨b, lb, cb, rfl, rfl⟩
          · refine iteF ?_
            exact ⟨b, lb, cb, rfl, rfl⟩
        · refine iteF ?_
          exact ⟨b, lb, cb, rfl, rfl⟩
      · refine iteF ?_
        exact ⟨b, lb, cb, rfl, rfl⟩
    · rintro σ' H' ⟨b, lb, cb, rfl, rfl⟩
      have hTl := hT.len
      have sl : ∀ n : Nat, n ≤ 100000 → n ≤ sizeLine := fun n h => Nat.le_trans h (by decide)
      refine ⟨_, rfl, _, rfl, _, _, rfl, rfl, (by rw [S_len, S_len]; exact sl _ (by omega)), _, rfl, _, _, rfl, rfl, (by rw [S_app, S_len, S_len, List.length_append]; exact sl _ (by omega)), _, rfl, ?_⟩
      rw [S_app, S_app]
      exact ⟨_, x, _, _, rfl, K5, hL5, hT.next hx xlen lb cb, xlen⟩
  · rintro σ' H' ⟨t, la, z5, z6, rfl, K3, hL3, hT, hla⟩
    have hTl := hT.len
    have hTc := hT.cnt
    rw [List.length_map] at hTl hTc
    rw [List.take_length] at hTc
    have hw1 := hw.2.1
    have hw2 := hw.2.2
    refine ⟨_, rfl, (by show 2 ≤ sizeLine; decide), fun p7 np7 => ?_⟩
    have K4 := K3.new (o := .lst [.str (PySem.Str.ofString ""), .str (PySem.Str.ofString "\n")]) np7
    have hp7 := K3.dk.ref np7
    refine ⟨_, rfl, ?_⟩
    refine ⟨d, c, 2, rfl, K4.dk, by decide, by decide, fun r5 H5 q1 q2 D5 b5 => ?_⟩
    have K5 := K4.step D5 b5
    have hl5 := b5 _ _ hp7.1 hp7.2 upd_same
    obtain ⟨v5, hv5, hm5⟩ := sel_len (xs := [.str (PySem.Str.ofString ""), .str (PySem.Str.ofString "\n")]) q1 q2
    have hv5' : ∃ b : Wd, v5 = .str (S b) ∧ b.length ≤ 2 ∧ b.count 59 = 0 := by
      rcases List.mem_cons.mp hm5 with rfl | hm5
      · exact ⟨[], by rw [ze], by decide, by decide⟩
      · rw [List.mem_singleton.mp hm5]
        exact ⟨[10], by rw [z_nl], by decide, by decide⟩
    obtain ⟨b, rfl, lb, cb⟩ := hv5'
    have sl : ∀ n : Nat, n ≤ 100000 → n ≤ sizeLine := fun n h => Nat.le_trans h (by decide)
    refine ⟨_, _, _, _, rfl, rfl, SqL.of hl5, hv5, _, _, rfl, rfl, (by rw [S_len, S_len]; exact sl _ (by omega)), ?_⟩
    rw [S_app]
    exact k _ _ (by rw [List.length_append]; omega) (by rw [List.count_append]; omega) K5.dk K5.bt
end
end K77
namespace K77
open PySem PySem.Spec PyProof.Rows L2
open C8 (pss_cut)
def spMixed : Sp := fun vs H Q _ => ∃ (d c a : Addr) (ws : List Wd), vs = [.ref d, .ref a] ∧ DeckAt d c H ∧ LW H a ws ∧ a ≠ d ∧ a ≠ c ∧ WsOk 700 11 ws ∧
  ∀ p ws' H', LW H' p ws' → WsOk 703 14 ws' → p ≠ d → p ≠ c → DeckAt d c H' → But d c H H' → Q (.ref p) H'
def pool : List Str := [PySem.Str.ofString "0", PySem.Str.ofString "1", PySem.Str.ofString "7", PySem.Str.ofString "x0", PySem.Str.ofString "x1", PySem.Str.ofString "x11", PySem.Str.ofString "~", PySem.Str.ofString "+", PySem.Str.ofString ">", PySem.Str.ofString "=", PySem.Str.ofString ";", PySem.Str.ofString "price", PySem.Str.ofString "from", PySem.Str.ofString "problem", PySem.Str.ofString "-", PySem.Str.ofString "1000001", PySem.Str.ofString "1000000", PySem.Str.ofString "007", PySem.Str.ofString "x", PySem.Str.ofString "x01", PySem.Str.ofString "x60", PySem.Str.ofString "X", PySem.Str.ofString "1" ++ PySem.Txt.mul (PySem.Str.ofString "0") 30, PySem.Str.ofString "999999999", PySem.Str.ofString "a", PySem.Str.ofString "_", PySem.Str.ofString "(", PySem.Str.ofString "00", PySem.Str.ofString "x1x", PySem.Str.ofString "60", PySem.Str.ofString "61", PySem.Str.ofString "0x", PySem.Str.ofString "from0", PySem.Str.ofString "\t", PySem.Str.ofString "?"]
theorem pool_ok : ∀ x ∈ pool, WsOk 1 1 [lw x] := by decide +kernel
theorem pool_len : pool.length = 35 := by rfl
theorem mul_ok : MulOk (PySem.Str.ofString "0") 30 := by unfold MulOk; decide +kernel
theorem WsOk.at {N M : Nat} {ws : List Wd} {x : Wd} (h : WsOk N M ws) (hx : x ∈ ws) : WsOk 1 1 [x] := by
  refine ⟨fun w hw => by rw [List.mem_singleton.mp hw]; exact h.1 x hx, Nat.le_refl _, ?_⟩
  have := (h.1 x hx).2
  unfold sc
  simpa using this
section
variable {P : Program} {w : World} {K : PySem.W.Frag} {mg : Str → Option Value} {base : Heap}
theorem ok_l_mixed (T : Txt P K mg) : FnOk P w K mg base CX0 2 (He.fAd K ("_law_mixed", none)) (fdO K ("_law_mixed", none)) ["deck", "words"] spMixed := by
  refine T.F_l_mixed.ok sc_l_mixed (fun vs H Q E h => ?_) (fun cdv A outer s H vs Q E hr h => ?_)
  · obtain ⟨d, c, a, ws, rfl, _⟩ := h
    rfl
  obtain ⟨d, c, a, ws0, rfl, D0, hL, had, hac, hw0, k⟩ := h
  refine ⟨_, PSs.nox (pss_cons (ps_set (i := 2) sc_l_mixed.nd rfl (Or.inl rfl) (pe_lst (pa_cons pe_str (pa_cons pe_str (pa_cons pe_str (pa_cons pe_str (pa_cons pe_str (pa_cons pe_str (pa_cons pe_str (pa_cons pe_str (pa_cons pe_str (pa_cons pe_str (pa_cons pe_str (pa_cons pe_str (pa_cons pe_str (pa_cons pe_str (pa_cons pe_str (pa_cons pe_str (pa_cons pe_str (pa_cons pe_str (pa_cons pe_str (pa_cons pe_str pa_nil))))))))))))))))))))))
    (pss_cons (ps_set (i := 2) sc_l_mixed.nd rfl (Or.inl rfl) (pe_op op_cat (pv 2) (pe_lst (pa_cons pe_str (pa_cons pe_str (pa_cons (pe_op op_add_str pe_str (pe_op op_mul_str pe_str pe_int)) (pa_cons pe_str (pa_cons pe_str (pa_cons pe_str (pa_cons pe_str (pa_cons pe_str (pa_cons pe_str (pa_cons pe_str (pa_cons pe_str (pa_cons pe_str (pa_cons pe_str (pa_cons pe_str (pa_cons pe_str pa_nil))))))))))))))))))
    (pss_cons (ps_set (i := 3) sc_l_mixed.nd rfl (Or.inl rfl) (pe_callTy call_list_of (by rfl) T.z_list (by decide +kernel) (pa_cons (pv 1) pa_nil)))
    (pss_cons (ps_for PassesOwn.never rfl (pi_range1 rfl T.z_range (pa_cons (pe_call (ok_l_pick T) hr rfl T.g__law_pick T.F_l_pick.kp (b_l_pick T) .nil pass0 (pa_cons (pv 0) (pa_cons pe_int pa_nil))) pa_nil)) (pg_name (i := 4) sc_l_mixed.nd rfl (Or.inl rfl))
      (pss_cons (ps_par (i := 5) (j := 6) (by rfl) sc_l_mixed.nd rfl rfl (by decide) rfl rfl (pa_cons (pe_call (ok_l_pick T) hr rfl T.g__law_pick T.F_l_pick.kp (b_l_pick T) .nil pass0 (pa_cons (pv 0) (pa_cons (pe_op op_add (pe_callB call_len_seq (by rfl) T.z_len (by decide +kernel) (pa_cons (pv 3) pa_nil)) pe_int) pa_nil))) (pa_cons (pe_call (ok_l_pick T) hr rfl T.g__law_pick T.F_l_pick.kp (b_l_pick T) .nil pass0 (pa_cons (pv 0) (pa_cons pe_int pa_nil))) pa_nil)) (by rfl))
      (pss_cut (ps_set (i := 7) sc_l_mixed.nd rfl (Or.inl rfl) (pe_ifExp (PW.pt (pw_or (pt_cmpR op_gt (pe_call (ok_l_pick T) hr rfl T.g__law_pick T.F_l_pick.kp (b_l_pick T) .nil pass0 (pa_cons (pv 0) (pa_cons pe_int pa_nil))) pe_int (nomark _)) (pw_or1 (pt_cmpR (op_eqNil hr.units) (pv 3) (pe_lst pa_nil) (nomark _))))) (pe_ix ix_list (pv 2) (pe_call (ok_l_pick T) hr rfl T.g__law_pick T.F_l_pick.kp (b_l_pick T) .nil pass0 (pa_cons (pv 0) (pa_cons pe_int pa_nil))) (fun _ _ => rfl)) (pe_ix ix_list (pv 3) (pe_call (ok_l_pick T) hr rfl T.g__law_pick T.F_l_pick.kp (b_l_pick T) .nil pass0 (pa_cons (pv 0) (pa_cons (pe_callB call_len_seq (by rfl) T.z_len (by decide +kernel) (pa_cons (pv 3) pa_nil)) pa_nil))) (fun _ _ => rfl))))
      (pss_one (ps_set (i := 3) sc_l_mixed.nd rfl (Or.inl rfl) (pe_op op_cat (pe_op op_cat (pe_slice sl_list (pv 3) po_none (po_some (pv 5))) (pe_ifExp (pt_cmpR op_lt (pv 6) pe_int (nomark _)) (pe_lst (pa_cons (pv 7) pa_nil)) (pe_lst pa_nil))) (pe_slice sl_list (pv 3) (po_some (pe_op op_add (pv 5) (pe_callTy call_int1 (by rfl) T.z_int (by decide +kernel) (pa_cons (pe_cmpR op_gt (pv 6) pe_int (nomark _)) pa_nil)))) po_none)))))))
    (pss_one (ps_ret (pv 3))))))), ?_⟩
  refine ⟨(by show 20 ≤ sizeLine; decide), fun p1 np1 => ?_⟩
  refine ⟨_, rfl, _, _, rfl, rfl, mul_ok, _, _, rfl, rfl, (by decide +kernel), (by show 15 ≤ sizeLine; decide), fun p2 np2 => ?_⟩
  have p12 : p1 ≠ p2 := ne_of_none upd_same np2
  refine ⟨_, _, _, _, rfl, rfl, (by rw [upd_ne p12]; exact upd_same), upd_same, (by show 20 + 15 ≤ sizeLine; decide), fun p3 np3 => ?_⟩
  have K3 := (((Dk.refl D0).new np1).new np2).new (o := .lst (pool.map V.str)) np3
  have hp3 := (((Dk.refl D0).new np1).new np2).dk.ref np3
  have hL3 : LW _ a ws0 := Same.nw (o := .lst (pool.map V.str)) (Same.nw (Same.new (Same.refl H) np1) np2) np3 _ _ hL
  have ap3 : a ≠ p3 := ne_of_none (Same.nw (Same.new (Same.refl H) np1) np2 _ _ hL) np3
  refine ⟨_, rfl, _, _, rfl, .inl (SqL.of hL3), fun p4 np4 => ?_⟩
  have K4 := K3.new (o := .lst (ws0.map vS)) np4
  have hp4 := K3.dk.ref np4
  have p34 : p3 ≠ p4 := ne_of_none upd_same np4
  refine ⟨_, rfl, ?_⟩
  refine ⟨d, c, 4, rfl, K4.dk, by decide, by decide, fun turns H5 t1 t2 D5 b5 => ?_⟩
  have K5 := K4.step D5 b5
  have hpl5 : H5 p3 = some (.lst (pool.map V.str)) := b5 _ _ hp3.1 hp3.2 (by rw [upd_ne p34]; exact upd_same)
  have hL5 : LW H5 p4 ws0 := b5 _ _ hp4.1 hp4.2 upd_same
  clear K4 K3 b5 D5 np4 hL3 np3 np2 np1
  refine ⟨turns, rfl, by omega, by omega, for_range (lo := 0) (n := turns.toNat) (fun i σ' H' => ∃ (ws : List Wd) (p : Addr) (z4 z5 z6 z7 : Option V), σ' = [some (.ref d), some (.ref a), some (.ref p3), some (.ref p), z4, z5, z6, z7] ∧ Dk d c H H' ∧ H' p3 = some (.lst (pool.map V.str)) ∧ LW H' p ws ∧ WsOk (700 + i) (11 + i) ws ∧ p ≠ d ∧ p ≠ c)
    ⟨ws0, p4, none, none, none, none, rfl, K5, hpl5, hL5, hw0, hp4.1, hp4.2⟩ ?_ ?_⟩
  · rintro i σ' H' hi ⟨ws, p, z4, z5, z6, z7, rfl, K5, hpl5, hL5, hw, pd, pc⟩
    have hi3 : i < 3 := by omega
    have hwl := hw.2.1
    refine ⟨_, rfl, _, rfl, _, _, rfl, .inl (SqL.of hL5), _, _, rfl, rfl, ?_⟩
    refine ⟨d, c, ((ws.map vS).length : Int) + 1, rfl, K5.dk, by omega, by rw [List.length_map]; omega, fun at' H6 f1 f2 D6 b6 => ?_⟩
    have K6 := K5.step D6 b6
    have hpl6 := b6 _ _ hp3.1 hp3.2 hpl5
    have hL6 : LW H6 p ws := b6 _ _ pd pc hL5
    refine ⟨_, rfl, ?_⟩
    refine ⟨d, c, 4, rfl, K6.dk, by decide, by decide, fun which H7 f3 f4 D7 b7 => ?_⟩
    have K7 := K6.step D7 b7
    have hpl7 := b7 _ _ hp3.1 hp3.2 hpl6
    have hL7 : LW H7 p ws := b7 _ _ pd pc hL6
    refine ⟨_, _, rfl, ?_⟩
    refine ⟨fun σ' H' => ∃ x : Wd, WsOk 1 1 [x] ∧ σ' = [some (.ref d), some (.ref a), some (.ref p3), some (.ref p), some (.int (0 + (i : Int))), some (.int at'), some (.int which), some (vS x)] ∧ Dk d c H H' ∧ H' p3 = some (.lst (pool.map V.str)) ∧ LW H' p ws, ?_, ?_⟩
    · refine ⟨_, rfl, ?_⟩
      refine ⟨d, c, 3, rfl, K7.dk, by decide, by decide, fun r8 H8 f5 f6 D8 b8 => ?_⟩
      have K7 := K7.step D8 b8
      have hpl7 := b8 _ _ hp3.1 hp3.2 hpl7
      have hL7 : LW H8 p ws := b8 _ _ pd pc hL7
      refine ⟨_, _, rfl, rfl, _, rfl, ?_⟩
      refine ite2 (fun h5 => ?_) (fun h5 => ?_)
      · refine iteT ?_
        refine ⟨_, rfl, _, rfl, ?_⟩
        refine ⟨d, c, 35, rfl, K7.dk, by decide, by decide, fun r9 H9 g1 g2 D9 b9 => ?_⟩
        have K7 := K7.step D9 b9
        have hpl7 := b9 _ _ hp3.1 hp3.2 hpl7
        have hL7 : LW H9 p ws := b9 _ _ pd pc hL7
        obtain ⟨v, hv, hm⟩ := sel_len (xs := pool.map V.str) g1 (by rw [List.length_map, pool_len]; omega)
        obtain ⟨x, hx, rfl⟩ := List.mem_map.mp hm
        refine ⟨_, _, _, _, rfl, rfl, SqL.of hpl7, hv, ?_⟩
        exact ⟨lw x, pool_ok x hx, by rw [← vS_lw]; rfl, K7, hpl7, hL7⟩
      · refine ⟨_, rfl, (by show 0 ≤ sizeLine; decide), fun p16 np16 => ?_⟩
        have K8 := K7.new (o := .lst []) np16
        have pp16 : p ≠ p16 := ne_of_none hL7 np16
        have p316 : p3 ≠ p16 := ne_of_none hpl7 np16
        have hpl8 : upd H8 p16 (.lst []) p3 = some (.lst (pool.map V.str)) := by rw [upd_ne p316]; exact hpl7
        have hL8 : LW (upd H8 p16 (.lst [])) p ws := by show upd _ _ _ _ = _; rw [upd_ne pp16]; exact hL7
        refine ⟨_, _, _, rfl, rfl, SqL.of hL8, SqL.of upd_same, _, rfl, ?_⟩
        refine ite2 (fun h17 => ?_) (fun h17 => ?_)
        · refine ⟨_, rfl, _, rfl, ?_⟩
          refine ⟨d, c, 35, rfl, K8.dk, by decide, by decide, fun r9 H9 g1 g2 D9 b9 => ?_⟩
          have K7 := K8.step D9 b9
          have hpl7 := b9 _ _ hp3.1 hp3.2 hpl8
          have hL7 : LW H9 p ws := b9 _ _ pd pc hL8
          obtain ⟨v, hv, hm⟩ := sel_len (xs := pool.map V.str) g1 (by rw [List.length_map, pool_len]; omega)
          obtain ⟨x, hx, rfl⟩ := List.mem_map.mp hm
          refine ⟨_, _, _, _, rfl, rfl, SqL.of hpl7, hv, ?_⟩
          exact ⟨lw x, pool_ok x hx, by rw [← vS_lw]; rfl, K7, hpl7, hL7⟩
        · have hne : 0 < ws.length := by
            cases ws with
            | nil => exact absurd rfl h17
            | cons _ _ => simp
          refine ⟨_, rfl, _, rfl, _, rfl, _, _, rfl, .inl (SqL.of hL8), ?_⟩
          refine ⟨d, c, ((ws.map vS).length : Int), rfl, K8.dk, by rw [List.length_map]; omega, by rw [List.length_map]; omega, fun r9 H9 g1 g2 D9 b9 => ?_⟩
          have K9 := K8.step D9 b9
          have hpl9 := b9 _ _ hp3.1 hp3.2 hpl8
          have hL9 : LW H9 p ws := b9 _ _ pd pc hL8
          obtain ⟨v, hv, hm⟩ := sel_len (xs := ws.map vS) g1 (by omega)
          obtain ⟨x, hx, rfl⟩ := List.mem_map.mp hm
          refine ⟨_, _, _, _, rfl, rfl, SqL.of hL9, hv, ?_⟩
          exact ⟨x, hw.at hx, rfl, K9, hpl9, hL9⟩
    · rintro σ' H8 ⟨x, hx, rfl, K8, hpl8, hL8⟩
      obtain ⟨n, rfl⟩ := Int.eq_ofNat_of_zero_le f1
      have LEN : ∀ {u v : List Wd} {N N' M M' : Nat}, WsOk N M u → WsOk N' M' v → N + N' ≤ 100000 → (u.map vS).length + (v.map vS).length ≤ sizeLine := fun h1 h2 h => LW.len h1.2.1 h2.2.1 h
      refine ⟨_, rfl, _, rfl, _, rfl, _, _, rfl, SqL.of hL8, fun q1 nq1 => ?_⟩
      have K9 := K8.new (o := .lst (cutV (ws.map vS) none (some ((n : Nat) : Int)))) nq1
      have pq1 : p ≠ q1 := ne_of_none hL8 nq1
      have p3q1 : p3 ≠ q1 := ne_of_none hpl8 nq1
      have hpl9 : upd H8 q1 (.lst (cutV (ws.map vS) none (some ((n : Nat) : Int)))) p3 = some (.lst (pool.map V.str)) := by rw [upd_ne p3q1]; exact hpl8
      have hL9 : LW (upd H8 q1 (.lst (cutV (ws.map vS) none (some ((n : Nat) : Int))))) p ws := by show upd _ _ _ _ = _; rw [upd_ne pq1]; exact hL8
      have hq1 : LW (upd H8 q1 (.lst (cutV (ws.map vS) none (some ((n : Nat) : Int))))) q1 (ws.take n) := by show upd _ _ _ _ = _; rw [upd_same, cutV_to, List.map_take]
      generalize (upd H8 q1 (.lst (cutV (ws.map vS) none (some ((n : Nat) : Int))))) = H9 at *
      have mid : ∀ (nw : List Wd) (q2 : Addr) (H10 : Hp), (nw = [x] ∨ nw = []) → Dk d c H H10 → H10 p3 = some (.lst (pool.map V.str)) → LW H10 p ws → LW H10 q1 (ws.take n) → LW H10 q2 nw → True := fun _ _ _ _ _ _ _ _ _ => trivial
      have hnw : ∀ nw : List Wd, (nw = [x] ∨ (nw = [] ∧ 0 < which)) → WsOk (700 + i + 1) (11 + i + 1) (ws.take n ++ nw ++ ws.drop (n + (if 0 < which then 1 else 0))) := fun nw h => by
        have e1 := hw.2.1
        have e2 := hw.2.2
        have e3 := sc_drop ws n
        have e4 := sc_drop (ws.drop n) (if 0 < which then 1 else 0)
        rw [List.drop_drop] at e4
        have e5 : sc nw ≤ 1 := by
          rcases h with rfl | ⟨rfl, _⟩
          · exact hx.2.2
          · exact Nat.zero_le _
        have e6 : nw.length ≤ 1 := by
          rcases h with rfl | ⟨rfl, _⟩
          · exact Nat.le_refl _
          · exact Nat.zero_le _
        refine ⟨fun y hy => ?_, ?_, ?_⟩
        · rcases List.mem_append.mp hy with q | q
          · rcases List.mem_append.mp q with q | q
            · exact hw.1 y (List.mem_of_mem_take q)
            · rcases h with rfl | ⟨rfl, _⟩
              · exact hx.1 y q
              · cases q
          · exact hw.1 y (List.mem_of_mem_drop q)
        · rw [List.length_append, List.length_append, List.length_take, List.length_drop]
          split <;> omega
        · rw [sc_app, sc_app]
          omega
      have fin : ∀ (nw : List Wd) (q3 : Addr) (H11 : Hp), WsOk 1 1 nw → (nw = [x] ∨ (nw = [] ∧ 0 < which)) → True := fun _ _ _ _ _ => trivial
      have ed : ∀ m : Int, m = ((n : Nat) : Int) + (if decide ((0 : Int) < which) = true then 1 else 0) → cutV (ws.map vS) (some m) none = (ws.drop (n + (if 0 < which then 1 else 0))).map vS := fun m e => by
        have : m = ((n + (if 0 < which then 1 else 0) : Nat) : Int) := by
          rw [e]
          by_cases hwh : 0 < which
          · rw [if_pos (decide_eq_true hwh), if_pos hwh]; rfl
          · rw [if_neg (by rw [decide_eq_false hwh]; exact Bool.false_ne_true), if_neg hwh]; rfl
        rw [this, cutV_from, List.map_drop]
      refine ⟨_, rfl, _, _, rfl, rfl, _, rfl, ?_⟩
      refine ite2 (fun h7 => ?_) (fun h7 => ?_)
      · refine ⟨_, rfl, (by show 1 ≤ sizeLine; decide), fun q2 nq2 => ?_⟩
        have K10 := K9.new (o := .lst [vS x]) nq2
        have n1 : p ≠ q2 := ne_of_none hL9 nq2
        have n2 : p3 ≠ q2 := ne_of_none hpl9 nq2
        have n3 : q1 ≠ q2 := ne_of_none hq1 nq2
        have hpl10 : upd H9 q2 (.lst [vS x]) p3 = some (.lst (pool.map V.str)) := by rw [upd_ne n2]; exact hpl9
        have hL10 : LW (upd H9 q2 (.lst [vS x])) p ws := by show upd _ _ _ _ = _; rw [upd_ne n1]; exact hL9
        have hq10 : LW (upd H9 q2 (.lst [vS x])) q1 (ws.take n) := by show upd _ _ _ _ = _; rw [upd_ne n3]; exact hq1
        have hq2 : LW (upd H9 q2 (.lst [vS x])) q2 [x] := by show upd _ _ _ _ = _; rw [upd_same]; rfl
        generalize (upd H9 q2 (.lst [vS x])) = H10 at *
        refine ⟨_, _, _, _, rfl, rfl, hq10, hq2, LEN (hw.take n) hx (by omega), fun q3 nq3 => ?_⟩
        have K11 := K10.new (o := .lst ((ws.take n).map vS ++ [x].map vS)) nq3
        have n4 : p ≠ q3 := ne_of_none hL10 nq3
        have n5 : p3 ≠ q3 := ne_of_none hpl10 nq3
        have hpl11 : upd H10 q3 (.lst ((ws.take n).map vS ++ [x].map vS)) p3 = some (.lst (pool.map V.str)) := by rw [upd_ne n5]; exact hpl10
        have hL11 : LW (upd H10 q3 (.lst ((ws.take n).map vS ++ [x].map vS))) p ws := by show upd _ _ _ _ = _; rw [upd_ne n4]; exact hL10
        have hq3 : LW (upd H10 q3 (.lst ((ws.take n).map vS ++ [x].map vS))) q3 (ws.take n ++ [x]) := by show upd _ _ _ _ = _; rw [upd_same, List.map_append]
        have hw3 : WsOk (701 + i) (12 + i) (ws.take n ++ [x]) := (hw.take n).app hx (by omega) (by omega)
        generalize (upd H10 q3 (.lst ((ws.take n).map vS ++ [x].map vS))) = H11 at *
        refine ⟨_, rfl, _, rfl, _, rfl, _, _, rfl, rfl, .inr ⟨_, rfl, ?_⟩⟩
        refine ⟨_, _, rfl, rfl, _, rfl, _, _, rfl, SqL.of hL11, fun q4 nq4 => ?_⟩
        rw [ed _ rfl] at *
        have K12 := K11.new (o := .lst ((ws.drop (n + (if 0 < which then 1 else 0))).map vS)) nq4
        have n6 : p3 ≠ q4 := ne_of_none hpl11 nq4
        have n7 : q3 ≠ q4 := ne_of_none hq3 nq4
        refine ⟨_, _, _, _, rfl, rfl, (by rw [upd_ne n7]; exact hq3), upd_same, LEN hw3 (hw.drop _) (by omega), fun q5 nq5 => ?_⟩
        have hp5 := K12.dk.ref nq5
        have n8 : p3 ≠ q5 := ne_of_none (by rw [upd_ne n6]; exact hpl11) nq5
        refine ⟨ws.take n ++ [x] ++ ws.drop (n + (if 0 < which then 1 else 0)), q5, _, _, _, _, rfl, K12.new nq5, by rw [upd_ne n8, upd_ne n6]; exact hpl11, ?_, hnw [x] (.inl rfl), hp5.1, hp5.2⟩
        show upd _ _ _ _ = _
        rw [upd_same]
        simp only [List.map_append]
      · have hwh : 0 < which := by have := ndec h7; omega
        refine ⟨(by show 0 ≤ sizeLine; decide), fun q2 nq2 => ?_⟩
        have K10 := K9.new (o := .lst []) nq2
        have n1 : p ≠ q2 := ne_of_none hL9 nq2
        have n2 : p3 ≠ q2 := ne_of_none hpl9 nq2
        have n3 : q1 ≠ q2 := ne_of_none hq1 nq2
        have hpl10 : upd H9 q2 (.lst []) p3 = some (.lst (pool.map V.str)) := by rw [upd_ne n2]; exact hpl9
        have hL10 : LW (upd H9 q2 (.lst [])) p ws := by show upd _ _ _ _ = _; rw [upd_ne n1]; exact hL9
        have hq10 : LW (upd H9 q2 (.lst [])) q1 (ws.take n) := by show upd _ _ _ _ = _; rw [upd_ne n3]; exact hq1
        have hq2 : LW (upd H9 q2 (.lst [])) q2 [] := by show upd _ _ _ _ = _; rw [upd_same]; rfl
        have hx0 : WsOk 0 0 [] := by decide
        generalize (upd H9 q2 (.lst [])) = H10 at *
        refine ⟨_, _, _, _, rfl, rfl, hq10, hq2, LEN (hw.take n) hx0 (by omega), fun q3 nq3 => ?_⟩
        have K11 := K10.new (o := .lst ((ws.take n).map vS ++ ([] : List Wd).map vS)) nq3
        have n4 : p ≠ q3 := ne_of_none hL10 nq3
        have n5 : p3 ≠ q3 := ne_of_none hpl10 nq3
        have hpl11 : upd H10 q3 (.lst ((ws.take n).map vS ++ ([] : List Wd).map vS)) p3 = some (.lst (pool.map V.str)) := by rw [upd_ne n5]; exact hpl10
        have hL11 : LW (upd H10 q3 (.lst ((ws.take n).map vS ++ ([] : List Wd).map vS))) p ws := by show upd _ _ _ _ = _; rw [upd_ne n4]; exact hL10
        have hq3 : LW (upd H10 q3 (.lst ((ws.take n).map vS ++ ([] : List Wd).map vS))) q3 (ws.take n ++ []) := by show upd _ _ _ _ = _; rw [upd_same, List.map_append]
        have hw3 : WsOk (701 + i) (12 + i) (ws.take n ++ []) := (hw.take n).app hx0 (by omega) (by omega)
        generalize (upd H10 q3 (.lst ((ws.take n).map vS ++ ([] : List Wd).map vS))) = H11 at *
        refine ⟨_, rfl, _, rfl, _, rfl, _, _, rfl, rfl, .inr ⟨_, rfl, ?_⟩⟩
        refine ⟨_, _, rfl, rfl, _, rfl, _, _, rfl, SqL.of hL11, fun q4 nq4 => ?_⟩
        rw [ed _ rfl] at *
        have K12 := K11.new (o := .lst ((ws.drop (n + (if 0 < which then 1 else 0))).map vS)) nq4
        have n6 : p3 ≠ q4 := ne_of_none hpl11 nq4
        have n7 : q3 ≠ q4 := ne_of_none hq3 nq4
        refine ⟨_, _, _, _, rfl, rfl, (by rw [upd_ne n7]; exact hq3), upd_same, LEN hw3 (hw.drop _) (by omega), fun q5 nq5 => ?_⟩
        have hp5 := K12.dk.ref nq5
        have n8 : p3 ≠ q5 := ne_of_none (by rw [upd_ne n6]; exact hpl11) nq5
        refine ⟨ws.take n ++ [] ++ ws.drop (n + (if 0 < which then 1 else 0)), q5, _, _, _, _, rfl, K12.new nq5, by rw [upd_ne n8, upd_ne n6]; exact hpl11, ?_, hnw [] (.inr ⟨rfl, hwh⟩), hp5.1, hp5.2⟩
        show upd _ _ _ _ = _
        rw [upd_same]
        simp only [List.map_append]
  · rintro σ' H' ⟨ws, p, z4, z5, z6, z7, rfl, K5, hpl5, hL5, hw, pd, pc⟩
    refine ⟨_, rfl, ?_⟩
    exact k p ws H' hL5 (hw.mono (by omega) (by omega)) pd pc K5.dk K5.bt
end
end K77
namespace K77
open PySem PySem.Spec PyProof.Rows L2
open C8 (pss_cut)
mutual
def sz : Da → Nat
  | .non => 1
  | .int _ => 1
  | .tup ds => 1 + szs ds
def szs : List Da → Nat
  | [] => 0
  | d :: ds => sz d + szs ds
end
theorem sz_pos : ∀ d : Da, 1 ≤ sz d
  | .non => Nat.le_refl _
  | .int _ => Nat.le_refl _
  | .tup ds => by rw [sz]; omega
theorem szs_app : ∀ a b : List Da, szs (a ++ b) = szs a + szs b
  | [], b => by rw [szs]; simp
  | d :: a, b => by
    rw [List.cons_append, szs, szs, szs_app a b]
    omega
theorem szs_len : ∀ a : List Da, a.length ≤ szs a
  | [] => Nat.zero_le _
  | d :: a => by
    rw [szs, List.length_cons]
    have := sz_pos d
    have := szs_len a
    omega
def dP (e : Da) : Da := .tup [e, e]
def spAlike : Sp := fun vs H Q _ => ∃ (x y : V) (d : Da), vs = [x, y] ∧ DA H x d ∧ DA H y d ∧ sz d ≤ 1000000 ∧ ∀ H', Same H H' → Q (.bl true) H'
theorem DA.dP {H : Hp} {x : V} {e : Da} (h : DA H x (dP e)) : ∃ a u v, x = .ref a ∧ H a = some (.tup [u, v]) ∧ DA H u e ∧ DA H v e := by
  obtain ⟨a, xs, rfl, ha, hs⟩ := h.tupI
  cases hs with
  | cons h1 h2 =>
    cases h2 with
    | cons h2 h3 =>
      cases h3
      exact ⟨a, _, _, rfl, ha, h1, h2⟩
theorem fold_dP {H : Hp} {a : Addr} {u v : V} {e : Da} (h : H a = some (.tup [u, v])) (h1 : DA H u e) (h2 : DA H v e) : DA H (.ref a) (dP e) := .tup h (.cons h1 (.cons h2 .nil))
section
variable {P : Program} {w : World} {K : PySem.W.Frag} {mg : Str → Option Value} {base : Heap}
theorem ok_l_alike (T : Txt P K mg) : FnOk P w K mg base CX0 1 (He.fAd K ("_law_alike", none)) (fdO K ("_law_alike", none)) ["told", "due"] spAlike := by
  refine T.F_l_alike.ok sc_l_alike (fun vs H Q E h => ?_) (fun cdv A outer s H vs Q E hr h => ?_)
  · obtain ⟨x, y, d, rfl, _⟩ := h
    rfl
  obtain ⟨x, y, d, rfl, hx, hy, hsz, k⟩ := h
  refine ⟨_, PSs.nox (pss_cons (ps_set (i := 2) sc_l_alike.nd rfl (Or.inl rfl) (pe_lst (pa_cons (pe_tup (pa_cons (pv 0) (pa_cons (pv 1) pa_nil))) pa_nil)))
    (pss_cons (ps_while PassesOwn.never (pt_cmpR (op_neNil hr.units) (pv 2) (pe_lst pa_nil) (nomark _))
      (pss_cons (ps_asg (pe_bm0 PySem.F.plainAttrs_list PySem.F.slot_list_pop PySem.F.type_list_pop mt_pop (pv 2)) (pg_tup rfl (pgs_cons (pg_name (i := 3) sc_l_alike.nd rfl (Or.inr rfl)) (pgs_cons (pg_name (i := 4) sc_l_alike.nd rfl (Or.inr rfl)) pgs_nil))))
      (pss_one (ps_if (pt_val (pe_callB call_isi (by rfl) T.z_isinstance (by decide +kernel) (pa_cons (pv 4) (pa_cons (pe_bltn (v := .ty "tuple") (by rfl) T.z_tuple (by decide +kernel) rfl) pa_nil))))
        (pss_cons (ps_if (PW.pt (pw_or (pt_not (pt_val (pe_callB call_isi (by rfl) T.z_isinstance (by decide +kernel) (pa_cons (pv 3) (pa_cons (pe_bltn (v := .ty "tuple") (by rfl) T.z_tuple (by decide +kernel) rfl) pa_nil))))) (pw_or1 (pt_cmpR op_ne (pe_callB call_len_seq (by rfl) T.z_len (by decide +kernel) (pa_cons (pv 3) pa_nil)) (pe_callB call_len_seq (by rfl) T.z_len (by decide +kernel) (pa_cons (pv 4) pa_nil)) (nomark _)))))
          (pss_one (ps_ret pe_bl))
          pss_nil)
        (pss_one (ps_set (i := 2) sc_l_alike.nd rfl (Or.inl rfl) (pe_op op_cat (pv 2) (pe_lc (own := [("k", 5)]) (by rfl) sc_l_alike.nd (pi_range1 rfl T.z_range (pa_cons (pe_callB call_len_seq (by rfl) T.z_len (by decide +kernel) (pa_cons (pv 4) pa_nil)) pa_nil)) (blkOk_by (own := [("k", 5)]) (N := N_l_alike) (sc := defScope s_l_alike) (by decide +kernel)) (fun _ _ _ _ _ => (pg_name (i := 5) sc_l_alike.nd rfl (Or.inl rfl))) (fun _ _ _ _ _ => pts_nil) (fun _ _ _ _ _ => (pe_tup (pa_cons (pe_ix (r := rIxT K) ix_tup (pv 3) (pv 5) (fun _ _ => rfl)) (pa_cons (pe_ix (r := rIxT K) ix_tup (pv 4) (pv 5) (fun _ _ => rfl)) pa_nil)))))))))
        (pss_one (ps_if (pt_cmpR op_isN (pv 4) pe_non (nomark _))
          (pss_one (ps_if (pt_cmpR op_notN (pv 3) pe_non (nomark _))
            (pss_one (ps_ret pe_bl))
            pss_nil))
          (pss_one (ps_if (pt_val (pe_callB call_isi (by rfl) T.z_isinstance (by decide +kernel) (pa_cons (pv 4) (pa_cons (pe_bltn (v := .ty "bool") (by rfl) T.z_bool (by decide +kernel) rfl) pa_nil))))
            (pss_one (ps_if (PW.pt (pw_or (pt_not (pt_val (pe_callB call_isi (by rfl) T.z_isinstance (by decide +kernel) (pa_cons (pv 3) (pa_cons (pe_bltn (v := .ty "bool") (by rfl) T.z_bool (by decide +kernel) rfl) pa_nil))))) (pw_or1 (pt_cmpR op_ne (pv 3) (pv 4) (nomark _)))))
              (pss_one (ps_ret pe_bl))
              pss_nil))
            (pss_one (ps_if (pt_val (pe_callB call_isi (by rfl) T.z_isinstance (by decide +kernel) (pa_cons (pv 4) (pa_cons (pe_bltn (v := .ty "str") (by rfl) T.z_str (by decide +kernel) rfl) pa_nil))))
              (pss_one (ps_if (PW.pt (pw_or (pt_not (pt_val (pe_callB call_isi (by rfl) T.z_isinstance (by decide +kernel) (pa_cons (pv 3) (pa_cons (pe_bltn (v := .ty "str") (by rfl) T.z_str (by decide +kernel) rfl) pa_nil))))) (pw_or1 (pt_cmpR op_ne (pv 3) (pv 4) (nomark _)))))
                (pss_one (ps_ret pe_bl))
                pss_nil))
              (pss_one (ps_if (PW.pt (pw_or (pt_not (pt_val (pe_callB call_isi (by rfl) T.z_isinstance (by decide +kernel) (pa_cons (pv 3) (pa_cons (pe_bltn (v := .ty "int") (by rfl) T.z_int (by decide +kernel) rfl) pa_nil))))) (pw_or (pt_val (pe_callB call_isi (by rfl) T.z_isinstance (by decide +kernel) (pa_cons (pv 3) (pa_cons (pe_bltn (v := .ty "bool") (by rfl) T.z_bool (by decide +kernel) rfl) pa_nil)))) (pw_or1 (pt_cmpR op_ne (pv 3) (pv 4) (nomark _))))))
                (pss_one (ps_ret pe_bl))
                pss_nil))))))))))))
    (pss_one (ps_ret pe_bl)))), ?_⟩
  refine ⟨_, rfl, _, rfl, (by show 2 ≤ sizeLine; decide), fun p1 np1 => ?_⟩
  refine ⟨(by show 1 ≤ sizeLine; decide), fun p2 np2 => ?_⟩
  have s1 := Same.new (o := .tup [x, y]) (Same.refl H) np1
  have s2 := Same.nw (o := .lst [.ref p1]) s1 np2
  have n12 : p1 ≠ p2 := ne_of_none upd_same np2
  refine ⟨fun m σ' H' => ∃ (es : List Da) (ys : List V) (l : Addr) (z3 z4 z5 : Option V), σ' = [some x, some y, some (.ref l), z3, z4, z5] ∧ H l = none ∧ H' l = some (.lst ys) ∧ DAs H' ys (es.map dP) ∧ Same H H' ∧ szs es = m ∧ m ≤ 1000000,
    ⟨sz d, [d], [.ref p1], p2, none, none, none, rfl, Same.free s1 np2, upd_same, .cons (fold_dP (by rw [upd_ne n12]; exact upd_same) (hx.mono (Same.tups s2)) (hy.mono (Same.tups s2))) .nil, s2, by show sz d + 0 = _; omega, hsz⟩, ?_⟩
  rintro m σ' H' ⟨es, ys, l, z3, z4, z5, rfl, nl, hl, hys, sm, hm, hmb⟩
  refine ⟨_, rfl, (by show 0 ≤ sizeLine; decide), fun p3 np3 => ?_⟩
  have s3 := Same.nw (o := .lst []) sm np3
  have nl3 : l ≠ p3 := ne_of_none hl np3
  have hl3 : upd H' p3 (.lst []) l = some (.lst ys) := by rw [upd_ne nl3]; exact hl
  have hys3 := hys.mono (Tups.new (o := .lst []) (Tups.refl H') np3)
  refine ⟨_, _, _, rfl, rfl, SqL.of hl3, SqL.of upd_same, _, rfl, ?_⟩
  generalize upd H' p3 (.lst []) = H3 at *
  refine ite2 (fun h4 => ?_) (fun h4 => ?_)
  · have hne : es ≠ [] := fun z => by
      subst z
      cases hys
      cases h4
    obtain ⟨es', e, rfl⟩ : ∃ es' e, es = es' ++ [e] := ⟨_, _, (List.dropLast_concat_getLast hne).symm⟩
    rw [List.map_append] at hys3
    obtain ⟨ys', yl, rfl, hys', hyl⟩ := DAs.last hys3
    obtain ⟨a, u, v, rfl, ha, hu, hv⟩ := DA.dP hyl
    rw [szs_app] at hm
    have hm : szs es' + sz e = m := by rw [← hm]; show _ = _ + (sz e + 0); rfl
    refine ⟨_, fun _ _ q => q, ?_⟩
    have tset : Tups H3 (upd H3 l (.lst ys')) := Tups.set hl3
    have ha4 : upd H3 l (.lst ys') a = some (.tup [u, v]) := tset _ _ ha
    have hu4 := hu.mono tset
    have hv4 := hv.mono tset
    have hys4 := hys'.mono tset
    have s4 : Same H (upd H3 l (.lst ys')) := fun b o e => by
      rw [upd_ne (ne_of_none e nl)]
      exact s3 b o e
    have hl4 : upd H3 l (.lst ys') l = some (.lst ys') := upd_same
    refine ⟨_, rfl, .inl ⟨rfl, _, SqL.of hl3⟩, _, _, _, rfl, rfl, hl3, (by rw [List.length_append]; show (ys' ++ [V.ref a])[ys'.length + 1 - 1]? = _; rw [Nat.add_sub_cancel, List.getElem?_concat_length]), ?_⟩
    rw [List.dropLast_concat]
    generalize upd H3 l (.lst ys') = H4 at *
    refine ⟨a, _, rfl, SqT.of ha4, rfl, _, _, rfl, _, _, rfl, rfl, ?_⟩
    have hp := sz_pos e
    cases e with
    | tup ds =>
      obtain ⟨b1, us, rfl, hb1, hus⟩ := hu4.tupI
      obtain ⟨b2, vs, rfl, hb2, hvs⟩ := hv4.tupI
      have l1 := hus.length
      have l2 := hvs.length
      have hds := szs_len ds
      have hm : szs es' + (1 + szs ds) = m := by rw [← hm]; rfl
      refine ⟨_, rfl, _, _, _, _, _, rfl, .ty _, .base (.tup hb2), kit_ty (b := "tuple") (r := true) (by decide +kernel), _, rfl, ?_⟩
      refine iteT ?_
      refine ⟨_, rfl, _, _, _, _, _, rfl, .ty _, .base (.tup hb1), kit_ty (b := "tuple") (r := true) (by decide +kernel), _, rfl, ?_⟩
      refine iteF ?_
      refine ⟨_, rfl, _, _, rfl, .inr (SqT.of hb1), _, rfl, _, _, rfl, .inr (SqT.of hb2), rfl, _, rfl, ?_⟩
      refine iteF' (by rw [l1, l2]; simp) ?_
      refine ⟨_, rfl, _, rfl, _, _, rfl, .inr (SqT.of hb2), _, rfl, by omega, by omega, fun D8 nD8 => lc_range (lo := 0) (n := ((vs.length : Nat) : Int).toNat) (fun i H5 => H5 l = some (.lst ys') ∧ DAs H5 ys' (es'.map dP) ∧ Same H H5 ∧ H5 b1 = some (.tup us) ∧ H5 b2 = some (.tup vs) ∧ DAs H5 us ds ∧ DAs H5 vs ds ∧ ∃ zs, H5 D8 = some (.lst zs) ∧ DAs H5 zs ((ds.take i).map dP)) ?_ ?_ ?_⟩
      · have t5 : Tups H4 (upd H4 D8 (.lst [])) := Tups.new (Tups.refl H4) nD8
        exact ⟨by rw [upd_ne (ne_of_none hl4 nD8)]; exact hl4, hys4.mono t5, Same.nw s4 nD8, t5 _ _ hb1, t5 _ _ hb2, hus.mono t5, hvs.mono t5, [], upd_same, .nil⟩
      · rintro i H5 hi ⟨g1, g2, g3, g4, g5, g6, g7, zs, g8, g9⟩
        have hi' : i < vs.length := by omega
        obtain ⟨q2, hq2⟩ := get_some hi'
        obtain ⟨q1, hq1⟩ := get_some (l := us) (i := i) (by omega)
        obtain ⟨e2, he2, hd2⟩ := g7.get hq2
        obtain ⟨e1, he1, hd1⟩ := g6.get hq1
        rw [he2] at he1
        cases he1
        have hzl := g9.length
        rw [List.length_map, List.length_take] at hzl
        have e0 : (0 : Int) + (i : Int) = ((i : Nat) : Int) := by omega
        refine ⟨rfl, _, rfl, _, rfl, _, _, _, _, rfl, rfl, SqT.of g4, by rw [e0]; exact atI_nat hq1, _, rfl, _, rfl, _, _, _, _, rfl, rfl, SqT.of g5, by rw [e0]; exact atI_nat hq2, (by show 2 ≤ sizeLine; decide), fun p9 np9 => ?_⟩
        have nz : D8 ≠ p9 := ne_of_none g8 np9
        have h6 : upd H5 p9 (.tup [q1, q2]) D8 = some (.lst zs) := by rw [upd_ne nz]; exact g8
        have t6 : Tups H5 (upd (upd H5 p9 (.tup [q1, q2])) D8 (.lst (zs ++ [.ref p9]))) := (Tups.new (Tups.refl H5) np9).trans (Tups.set h6)
        have nlD : l ≠ D8 := ne_of_none hl4 nD8
        have nlp : l ≠ p9 := ne_of_none g1 np9
        refine ⟨_, h6, (by rw [hzl]; exact Nat.lt_of_le_of_lt (Nat.min_le_right _ _) (Nat.lt_of_le_of_lt (show ds.length ≤ 1000000 by omega) (by decide))), by rw [upd_ne nlD, upd_ne nlp]; exact g1, g2.mono t6, fun b o e => ?_, t6 _ _ g4, t6 _ _ g5, g6.mono t6, g7.mono t6, _, upd_same, ?_⟩
        · rw [upd_ne (fun z => by have := Same.free s4 nD8; rw [z] at e; rw [e] at this; cases this), upd_ne (ne_of_none (g3 _ _ e) np9)]
          exact g3 b o e
        · rw [take_snoc he2, List.map_append]
          exact DAs.snoc (g9.mono t6) (fold_dP (by rw [upd_ne nz.symm]; exact upd_same) (hd1.mono t6) (hd2.mono t6))
      · rintro H5 ⟨g1, g2, g3, g4, g5, g6, g7, zs, g8, g9⟩
        have hzl := g9.length
        rw [List.length_map, show ((vs.length : Nat) : Int).toNat = ds.length by omega, List.take_length] at hzl
        rw [show ((vs.length : Nat) : Int).toNat = ds.length by omega, List.take_length] at g9
        have hyl' := g2.length
        rw [List.length_map] at hyl'
        have hes := szs_len es'
        refine ⟨_, _, _, _, rfl, rfl, g1, g8, Nat.le_trans (show _ ≤ 1000000 by omega) (by decide), fun p9 np9 => ?_⟩
        refine ⟨szs (es' ++ ds), by rw [szs_app]; omega, es' ++ ds, ys' ++ zs, p9, _, _, _, rfl, Same.free g3 np9, upd_same, ?_, Same.nw g3 np9, rfl, by rw [szs_app]; omega⟩
        rw [List.map_append]
        have t7 : Tups H5 (upd H5 p9 (.lst (ys' ++ zs))) := Tups.new (Tups.refl H5) np9
        exact DAs.append (g2.mono t7) (g9.mono t7)
    | non =>
      cases hu4
      cases hv4
      refine ⟨_, rfl, _, _, _, _, _, rfl, .ty _, .base .non, kit_ty (b := "tuple") (r := false) (by decide +kernel), _, rfl, ?_⟩
      refine iteF ?_
      refine ⟨_, rfl, rfl, _, rfl, ?_⟩
      refine iteT' (by decide) ?_
      refine ⟨_, rfl, rfl, _, rfl, ?_⟩
      refine iteF' (by decide) ?_
      exact ⟨szs es', by omega, es', ys', l, _, _, _, rfl, nl, hl4, hys4, s4, rfl, by omega⟩
    | int i =>
      cases hu4
      cases hv4
      refine ⟨_, rfl, _, _, _, _, _, rfl, .ty _, .base (.int _), kit_ty (b := "tuple") (r := false) (by decide +kernel), _, rfl, ?_⟩
      refine iteF ?_
      refine ⟨_, rfl, rfl, _, rfl, ?_⟩
      refine iteF' (decide_eq_false (fun z => nomatch z)) ?_
      refine ⟨_, rfl, _, _, _, _, _, rfl, .ty _, .base (.int _), kit_ty (b := "bool") (r := false) (by decide +kernel), _, rfl, ?_⟩
      refine iteF ?_
      refine ⟨_, rfl, _, _, _, _, _, rfl, .ty _, .base (.int _), kit_ty (b := "str") (r := false) (by decide +kernel), _, rfl, ?_⟩
      refine iteF ?_
      refine ⟨_, rfl, _, _, _, _, _, rfl, .ty _, .base (.int _), kit_ty (b := "int") (r := true) (by decide +kernel), _, rfl, ?_⟩
      refine iteF ?_
      refine ⟨_, rfl, _, _, _, _, _, rfl, .ty _, .base (.int _), kit_ty (b := "bool") (r := false) (by decide +kernel), _, rfl, ?_⟩
      refine iteF ?_
      refine ⟨_, rfl, _, rfl, rfl, _, rfl, ?_⟩
      refine iteF' (by simp) ?_
      exact ⟨szs es', by omega, es', ys', l, _, _, _, rfl, nl, hl4, hys4, s4, rfl, by omega⟩
  · exact k _ s3
end
end K77
namespace L2
open PySem PySem.Spec PyProof.Rows
/-- isinstance(e, c), e the exception held, its class told by the reading -/
def rIsUpC (K : PySem.W.Frag) (cls : Value) (a : Addr) : List V → Hp → VK → Prop := fun xs H Q => ∃ D, cls = .ref D ∧ rIsUp K D a xs H Q
theorem call_isUpC {X : Cx} {a : Addr} {oe : Obj} {cls : Value} {d : Option Addr} {pn : List (Addr × Obj)} (hz : Zc cls d oe) : CallR (X.suite a ((a, oe) :: pn)) (.builtin "isinstance") (rIsUpC X.K cls a) := by
  intro pins s σ H xs us Q I r h
  obtain ⟨D, e, h⟩ := h
  exact call_isUp (hz.1.trans e) pins s σ H xs us Q I r h
end L2
namespace K77
open PySem PySem.Spec PyProof.Rows L2
open C8 (pss_cut)
section
variable {ws : List (Wd × Nat)} {n : Nat}
theorem isNum_ne {w : Wd} (h : isNum w = true) : w ≠ [] := (isNum_digits h).2.1
theorem wAt_ne {i : Nat} (h : wAt ws i ≠ []) : i < ws.length := by
  by_cases hi : i < ws.length
  · exact hi
  · exact absurd (wAt_out hi) h
theorem mNum_lt {lo hi : Int} {i j : Nat} {v : Int} (h : mNum ws n lo hi i = .ok (v, j)) : j ≤ ws.length := by
  unfold mNum at h
  split at h
  · rename_i hc
    have := wAt_ne (isNum_ne hc.1)
    cases h
    omega
  · cases h
theorem mMark_lt {s : Wd} {i j : Nat} {v : Unit} (hs : s ≠ []) (h : mMark ws n s i = .ok (v, j)) : j ≤ ws.length := by
  unfold mMark at h
  split at h
  · rename_i hc
    have := wAt_ne (ws := ws) (i := i) (by rw [hc]; exact hs)
    cases h
    omega
  · cases h
theorem mNumber_lt {i j : Nat} {v : Int} (h : mNumber ws n i = .ok (v, j)) : j ≤ ws.length := by
  unfold mNumber at h
  split at h
  · obtain ⟨u, j', h1, h2⟩ := rb_inv h
    have := mNum_lt h1
    cases h2
    omega
  · exact mNum_lt h
theorem mLoop_len : ∀ {f : Nat} {last : Int} {acc : Tm} {i k : Nat} {v : Tm}, mLoop ws n f last acc i = .ok (v, k) → v.length + i ≤ acc.length + k
  | 0, _, _, _, _, _, h => by rw [mLoop] at h; cases h; exact Nat.le_refl _
  | f + 1, last, acc, i, k, v, h => by
    rw [mLoop_rb] at h
    split at h
    · obtain ⟨q, j, h1, h2⟩ := rb_inv h
      have := mTerm_le h1
      have := mLoop_len h2
      rw [List.length_append] at this
      have e : [q].length = 1 := rfl
      omega
    · cases h; exact Nat.le_refl _
theorem mTerms_len {last : Int} {i k : Nat} {v : Tm} (h : mTerms ws n last i = .ok (v, k)) : v.length + i ≤ k := by
  rw [mTerms_rb] at h
  split at h
  · cases h; simp
  · obtain ⟨q, j, h1, h2⟩ := rb_inv h
    have := mTerm_le h1
    have := mLoop_len h2
    have e : [q].length = 1 := rfl
    omega
theorem mSum_len {last : Int} {i k : Nat} {v : Tm × Int} (h : mSum ws n last i = .ok (v, k)) : v.1.length + 1 + i ≤ k ∧ k ≤ ws.length := by
  rw [mSum_rb] at h
  obtain ⟨t, j, h1, h2⟩ := rb_inv h
  obtain ⟨_, k1, h3, h4⟩ := rb_inv h2
  obtain ⟨_, l, h5, h6⟩ := rb_inv h4
  obtain ⟨x, m, h7, h8⟩ := rb_inv h6
  have := mTerms_len h1
  have := mMark_le h3
  have := mMark_le h5
  have := mNumber_le h7
  have := mNumber_lt h7
  cases h8
  exact ⟨by show t.length + 1 + i ≤ _; omega, by omega⟩
theorem mPrice_len {last : Int} {i k : Nat} {v : Tm × Int} (h : mPrice ws n last i = .ok (v, k)) : v.1.length + 1 + i ≤ k ∧ k ≤ ws.length := by
  rw [mPrice_rb] at h
  obtain ⟨t, j, h1, h2⟩ := rb_inv h
  obtain ⟨_, k1, h3, h4⟩ := rb_inv h2
  obtain ⟨x, m, h7, h8⟩ := rb_inv h4
  have := mTerms_len h1
  have := mMark_le h3
  have := mNumber_le h7
  have := mNumber_lt h7
  cases h8
  exact ⟨by show t.length + 1 + i ≤ _; omega, by omega⟩
theorem szs_tm : ∀ t : Tm, szs (t.map dTm) = 3 * t.length
  | [] => rfl
  | q :: t => by
    rw [List.map_cons, szs, szs_tm t, List.length_cons]
    have : sz (dTm q) = 3 := rfl
    omega
theorem sz_sum (s : Tm × Int) : sz (dSum s) = 3 + 3 * s.1.length := by
  show 1 + (sz (dTms s.1) + (1 + 0)) = _
  have : sz (dTms s.1) = 1 + szs (s.1.map dTm) := rfl
  rw [this, szs_tm]
  omega
theorem mSums_len : ∀ {f : Nat} {last : Int} {acc : List (Tm × Int)} {i k : Nat} {v : List (Tm × Int)}, mSums ws n f last acc i = .ok (v, k) → i ≤ ws.length → szs (v.map dSum) + 3 * i ≤ szs (acc.map dSum) + 3 * k ∧ k ≤ ws.length
  | 0, _, _, _, _, _, h, hi => by rw [mSums] at h; cases h; exact ⟨Nat.le_refl _, hi⟩
  | f + 1, last, acc, i, k, v, h, hi => by
    rw [mSums_rb] at h
    split at h
    · obtain ⟨q, j, h1, h2⟩ := rb_inv h
      have a := mSum_len h1
      have b := mSums_len h2 a.2
      rw [List.map_append, szs_app] at b
      have e : szs ([q].map dSum) = sz (dSum q) + 0 := rfl
      rw [e, sz_sum] at b
      omega
    · cases h; exact ⟨Nat.le_refl _, hi⟩
theorem sz_ans (h : ws.length ≤ 60000) : sz (dAns (rs (mProbR ws n))) ≤ 1000000 := by
  cases hm : mProbR ws n with
  | error p => show 1 + (1 + (1 + 0)) ≤ _; decide
  | ok q =>
    obtain ⟨pb, k⟩ := q
    have rest : ∀ many pr i, i ≤ ws.length → (∀ q, pr = some q → q.1.length ≤ ws.length) → mRestR ws n many pr i = .ok (pb, k) → sz (dPb pb) ≤ 999990 := fun many pr i hi hpr hr => by
      unfold mRestR at hr
      obtain ⟨sums, j, h1, h2⟩ := rb_inv hr
      split at h2
      · cases h2
      · cases h2
        have a := mSums_len h1 hi
        have e1 : sz (dPb (many, sums, pr)) = 1 + (1 + ((1 + szs (sums.map dSum)) + (sz (dPr pr) + 0))) := rfl
        have e2 : szs (([] : List (Tm × Int)).map dSum) = 0 := rfl
        rw [e1]
        rw [e2] at a
        have : sz (dPr pr) ≤ 3 + 3 * ws.length := by
          cases pr with
          | none => show 1 ≤ _; omega
          | some q =>
            show sz (dSum q) ≤ _
            rw [sz_sum]
            have := hpr q rfl
            omega
        omega
    have all : sz (dPb pb) ≤ 999990 := by
      unfold mProbR at hm
      obtain ⟨_, j1, h1, h2⟩ := rb_inv hm
      obtain ⟨many, j2, h3, h4⟩ := rb_inv h2
      have := mNum_lt h3
      split at h4
      · obtain ⟨q, j3, h5, h6⟩ := rb_inv h4
        have a := mPrice_len h5
        exact rest many (some q) j3 a.2 (fun q' e => by cases e; omega) h6
      · exact rest many none j2 this (fun q' e => by cases e) h4
    show 1 + (sz (dPb pb) + (1 + 0)) ≤ _
    omega
end
def spTold (K : PySem.W.Frag) : Sp := fun vs H Q _ => ∃ x, vs = [x] ∧
  ((∃ t : List Nat, x = .str (S t) ∧ t.length < sizeLine ∧ semis (toks t 0) < 300 ∧ ∀ y H', DA H' y (dAns (rs (mProbR (toks t 0) t.length))) → Same H H' → Q y H') ∨
   (NoStr K H x ∧ ∀ y H', DA H' y (.tup [.non, .int 0]) → Same H H' → Q y H'))
section
variable {P : Program} {w : World} {K : PySem.W.Frag} {mg : Str → Option Value} {base : Heap}
theorem kb_read_problem (T : Txt P K mg) : KBinds K (fdO K ("read_problem", none)) ["text"] ["text"] (fun us ws => if us.isEmpty then ws else []) (fun vs zs => if vs.isEmpty then zs else []) := by
  obtain ⟨oc, od, dV, kV, doc, pm, an, cdv, ct, osl, e, lk, hcd, hD, hK⟩ := T.F_read_problem.ex
  rcases hD with ⟨_, rfl⟩ | ⟨q, _⟩
  · refine ⟨fun s us ws X hl => ?_, fun {vs us zs ws} r1 r2 => ?_⟩
    · rw [e]
      cases us with
      | cons u r => cases hl
      | nil =>
        have hl : ws.length = 1 := hl
        match ws, hl with
        | [v], _ => exact .of_eq rfl
    · cases r1 with
      | nil => exact r2
      | cons a b => exact .nil
  · exact absurd rfl q
theorem ok_l_told (T : Txt P K mg) : FnOk P w K mg base CX0 10 (He.fAd K ("_law_told", none)) (fdO K ("_law_told", none)) ["text"] (spTold K) := by
  refine T.F_l_told.ok sc_l_told (fun vs H Q E h => ?_) (fun cdv A outer s H vs Q E hr h => ?_)
  · obtain ⟨x, rfl, _⟩ := h
    rfl
  obtain ⟨x, rfl, h⟩ := h
  refine ⟨_, PSs.nox (pss_cons (ps_asg (pe_tup (pa_cons pe_non (pa_cons (pe_un un_neg pe_int) pa_nil))) (pg_tup rfl (pgs_cons (pg_name (i := 1) sc_l_told.nd rfl (Or.inl rfl)) (pgs_cons (pg_name (i := 2) sc_l_told.nd rfl (Or.inl rfl)) pgs_nil))))
    (pss_cons (ps_try_as (i := 3) rfl rfl sc_l_told.nd rfl rfl ⟨rfl, by decide, .inl T.bt.gC⟩ takes0
      (fun W pn xe tk _ => pss_one (ps_set (i := 1) sc_l_told.nd rfl (Or.inl rfl) (pe_callKS (ok_read_problem T) hr (by rfl) T.g_read_problem T.F_read_problem.kp (kb_read_problem T) (fun σ => passAt tk σ) (pk_cons (pv 0) pk_nil))))
      (fun a oe cls d pn hz hf => pss_one (ps_set (i := 2) sc_l_told.nd rfl (Or.inl rfl) (pe_ifExp (PW.pt (pw_and (pt_val (pe_callB (call_isUpC hz) (by rfl) T.z_isinstance (by decide +kernel) (pa_cons (pv 3) (pa_cons (pe_glob (by rfl) T.g_SumError (show RelV (.ref (He.ga K "SumError")) _ from rfl)) pa_nil))))
        (pw_and1 (pt_val (pe_callB (call_isUpC hz) (by rfl) T.z_isinstance (by decide +kernel) (pa_cons (pv 3) (pa_cons (pe_bltn (v := .ty "ValueError") (by rfl) T.z_ValueError (by decide +kernel) rfl) pa_nil))))))) (pe_place T.bt hz hf (pv 3)) pe_non))))
    (pss_one (ps_ret (pe_tup (pa_cons (pv 1) (pa_cons (pv 2) pa_nil))))))), ?_⟩
  refine ⟨_, rfl, (by show 2 ≤ sizeLine; decide), fun p1 np1 => ?_⟩
  refine ⟨p1, _, rfl, SqT.of upd_same, rfl, _, _, rfl, _, _, rfl, rfl, ?_⟩
  have s1 := Same.new (o := .tup [.non, .int (-1)]) (Same.refl H) np1
  generalize upd H p1 (.tup [.non, .int (-1)]) = H1 at *
  refine ⟨_, rfl, ?_⟩
  rcases h with ⟨t, rfl, ht, hsem, k⟩ | ⟨⟨ty, hk, hty⟩, k⟩
  · refine ⟨_, rfl, .inl ⟨t, rfl, ht, hsem, ?_⟩⟩
    cases hm : mProbR (toks t 0) t.length with
    | ok q =>
      obtain ⟨pb, j⟩ := q
      rw [hm] at k
      intro y H2 hy s2
      refine ⟨_, rfl, _, rfl, (by show 2 ≤ sizeLine; decide), fun p2 np2 => ?_⟩
      have t2 : Tups H2 (upd H2 p2 (.tup [y, .int (-1)])) := Tups.new (Tups.refl H2) np2
      exact k _ _ (.tup upd_same (.cons (hy.mono t2) (.cons (.int _) .nil))) (Same.nw (fun b o e => s2 b o (s1 b o e)) np2)
    | error p =>
      rw [hm] at k
      intro d H2 hd s2
      refine ⟨true, T.bt.te, fun _ a ha => ?_, fun q => Bool.noConfusion q⟩
      refine ⟨_, rfl, _, rfl, _, _, rfl, (fun u h => h), T.neSum, T.kSum, _, rfl, ?_⟩
      refine iteT ?_
      refine ⟨_, rfl, _, rfl, _, _, rfl, (fun u h => h), rfl, T.kVal, _, rfl, ?_⟩
      refine iteT ?_
      refine ⟨_, rfl, rfl, rfl, d, _, rfl, hd, ?_⟩
      refine ⟨_, rfl, _, rfl, (by show 2 ≤ sizeLine; decide), fun p2 np2 => ?_⟩
      exact k _ _ (.tup upd_same (.cons .non (.cons (.int _) .nil))) (Same.nw (fun b o e => s2 b o (s1 b o e)) np2)
  · refine ⟨_, rfl, .inr ⟨⟨ty, hk, fun H' s' => hty H' (fun b o e => s' b o (s1 b o e))⟩, ?_⟩⟩
    intro d H2 hd s2
    refine ⟨true, T.bt.te, fun _ a ha => ?_, fun q => Bool.noConfusion q⟩
    refine ⟨_, rfl, _, rfl, _, _, rfl, (fun u h => h), T.neSum, T.kSum, _, rfl, ?_⟩
    refine iteT ?_
    refine ⟨_, rfl, _, rfl, _, _, rfl, (fun u h => h), rfl, T.kVal, _, rfl, ?_⟩
    refine iteT ?_
    refine ⟨_, rfl, rfl, rfl, d, _, rfl, hd, ?_⟩
    refine ⟨_, rfl, _, rfl, (by show 2 ≤ sizeLine; decide), fun p2 np2 => ?_⟩
    exact k _ _ (.tup upd_same (.cons .non (.cons (.int _) .nil))) (Same.nw (fun b o e => s2 b o (s1 b o e)) np2)
end
end K77
namespace K77
open PySem PySem.Spec PyProof.Rows L2
open C8 (pss_cut)
def spLaw (K : PySem.W.Frag) : Sp := fun vs H Q _ => ∃ (a : Addr) (ns : List Int), vs = [.ref a] ∧ SqL K H a (ns.map V.int) ∧ ns.length ≤ 63 ∧ ∀ H', Q (.bl true) H'
theorem S_taken {w : Wd} {r : Nat} : cutS (S w) none (some (r : Int)) = S (w.take r) := by
  unfold cutS
  rw [HT.sIx_none, HT.sIx_nat, S_len]
  show (⟨((w.drop 0).take (Nat.min r w.length - 0)).toArray⟩ : Str) = _
  rw [List.drop_zero, Nat.sub_zero]
  show S (w.take (Nat.min r w.length)) = S (w.take r)
  by_cases h : r ≤ w.length
  · rw [show Nat.min r w.length = r from Nat.min_eq_left h]
  · rw [show Nat.min r w.length = w.length from Nat.min_eq_right (by omega), List.take_of_length_le (Nat.le_refl _), List.take_of_length_le (by omega)]
section
variable {P : Program} {w : World} {K : PySem.W.Frag} {mg : Str → Option Value} {base : Heap}
theorem ok_law (T : Txt P K mg) : FnOk P w K mg base CX0 11 (He.fAd K ("law", none)) (fdO K ("law", none)) ["script"] (spLaw K) := by
  refine T.F_law.ok sc_law (fun vs H Q E h => ?_) (fun cdv A outer s H vs Q E hr h => ?_)
  · obtain ⟨a, ns, rfl, _⟩ := h
    rfl
  obtain ⟨a, ns, rfl, hS, hns, k⟩ := h
  refine ⟨_, PSs.nox (pss_cons (ps_set (i := 1) sc_law.nd rfl (Or.inl rfl) (pe_call (ok_l_deck T) (hr.mono (by decide)) rfl T.g__law_deck T.F_l_deck.kp (b_l_deck T) .nil pass0 (pa_cons (pv 0) pa_nil)))
    (pss_cons (ps_for PassesOwn.never rfl (pi_range1 rfl T.z_range (pa_cons (pe_op op_add pe_int (pe_callB (call_min2 rfl) (by rfl) T.z_min (by decide +kernel) (pa_cons (pe_callB call_len_seq (by rfl) T.z_len (by decide +kernel) (pa_cons (pv 0) pa_nil)) (pa_cons pe_int pa_nil)))) pa_nil)) (pg_name (i := 2) sc_law.nd rfl (Or.inl rfl))
      (pss_cons (ps_set (i := 3) sc_law.nd rfl (Or.inl rfl) (pe_op op_add pe_int (pe_call (ok_l_pick T) (hr.mono (by decide)) rfl T.g__law_pick T.F_l_pick.kp (b_l_pick T) .nil pass0 (pa_cons (pv 1) (pa_cons pe_int pa_nil)))))
      (pss_cons (ps_set (i := 4) sc_law.nd rfl (Or.inl rfl) (pe_call (ok_l_problem_words T) (hr.mono (by decide)) rfl T.g__law_problem_words T.F_l_problem_words.kp (b_l_problem_words T) .nil pass0 (pa_cons (pe_call (ok_l_tied T) (hr.mono (by decide)) rfl T.g__law_tied T.F_l_tied.kp (b_l_tied T) .nil pass0 (pa_cons (pv 1) (pa_cons (pv 3) pa_nil))) pa_nil)))
      (pss_cons (ps_for PassesOwn.never rfl (pi_range1 rfl T.z_range (pa_cons pe_int pa_nil)) (pg_name (i := 5) sc_law.nd rfl (Or.inl rfl))
        (pss_cons (ps_set (i := 6) sc_law.nd rfl (Or.inl rfl) (pe_call (ok_l_spread T) (hr.mono (by decide)) rfl T.g__law_spread T.F_l_spread.kp (b_l_spread T) .nil pass0 (pa_cons (pv 1) (pa_cons (pe_call (ok_l_mixed T) (hr.mono (by decide)) rfl T.g__law_mixed T.F_l_mixed.kp (b_l_mixed T) .nil pass0 (pa_cons (pv 1) (pa_cons (pv 4) pa_nil))) pa_nil))))
        (pss_cut (ps_if (pt_cmpR op_eq (pe_call (ok_l_pick T) (hr.mono (by decide)) rfl T.g__law_pick T.F_l_pick.kp (b_l_pick T) .nil pass0 (pa_cons (pv 1) (pa_cons pe_int pa_nil))) pe_int (nomark _))
          (pss_one (ps_set (i := 6) sc_law.nd rfl (Or.inl rfl) (pe_slice sl_str (pv 6) po_none (po_some (pe_call (ok_l_pick T) (hr.mono (by decide)) rfl T.g__law_pick T.F_l_pick.kp (b_l_pick T) .nil pass0 (pa_cons (pv 1) (pa_cons (pe_op op_add (pe_callB call_len_str (by rfl) T.z_len (by decide +kernel) (pa_cons (pv 6) pa_nil)) pe_int) pa_nil)))))))
          pss_nil)
        (pss_one (ps_if (pt_not (pt_val (pe_call (ok_l_alike T) (hr.mono (by decide)) rfl T.g__law_alike T.F_l_alike.kp (b_l_alike T) .nil pass0 (pa_cons (pe_call (ok_l_told T) hr rfl T.g__law_told T.F_l_told.kp (b_l_told T) .nil pass0 (pa_cons (pv 6) pa_nil)) (pa_cons (pe_call (ok_l_read T) (hr.mono (by decide)) rfl T.g__law_read T.F_l_read.kp (b_l_read T) .nil pass0 (pa_cons (pv 6) pa_nil)) pa_nil)))))
          (pss_one (ps_ret pe_bl))
          pss_nil)))))
      (pss_one (ps_if (pt_not (pt_val (pe_call (ok_l_alike T) (hr.mono (by decide)) rfl T.g__law_alike T.F_l_alike.kp (b_l_alike T) .nil pass0 (pa_cons (pe_call (ok_l_told T) hr rfl T.g__law_told T.F_l_told.kp (b_l_told T) .nil pass0 (pa_cons (pe_ix ix_list (pe_lst (pa_cons pe_non (pa_cons pe_int (pa_cons (pe_tup (pa_cons pe_str pa_nil)) (pa_cons (pe_lst (pa_cons pe_str (pa_cons pe_str pa_nil))) pa_nil))))) (pe_call (ok_l_pick T) (hr.mono (by decide)) rfl T.g__law_pick T.F_l_pick.kp (b_l_pick T) .nil pass0 (pa_cons (pv 1) (pa_cons pe_int pa_nil))) (fun _ _ => rfl)) pa_nil)) (pa_cons (pe_tup (pa_cons pe_non (pa_cons pe_int pa_nil))) pa_nil)))))
        (pss_one (ps_ret pe_bl))
        pss_nil))))))
    (pss_one (ps_ret pe_bl)))), ?_⟩
  refine ⟨_, rfl, ?_⟩
  refine ⟨a, ns, rfl, hS, hns, fun d c H1 nd nc s1 D1 => ?_⟩
  have hS1 : SqL K H1 a (ns.map V.int) := s1.seq hS
  refine ⟨_, rfl, _, _, rfl, .inl hS1, _, _, rfl, _, _, rfl, rfl, _, rfl, (by split <;> omega), (by split <;> omega), for_range (lo := 0) (n := _) (fun i σ' H' => ∃ (z2 z3 z4 z5 z6 : Option V), σ' = [some (.ref a), some (.ref d), z2, z3, z4, z5, z6] ∧ DeckAt d c H') ⟨none, none, none, none, none, rfl, D1⟩ ?_ ?_⟩
  · rintro i σ' H' hi ⟨z2, z3, z4, z5, z6, rfl, D2⟩
    refine ⟨_, rfl, ?_⟩
    refine ⟨d, c, 12, rfl, D2, by decide, by decide, fun r H2 r1 r2 D3 b3 => ?_⟩
    refine ⟨_, _, rfl, rfl, _, rfl, _, rfl, ?_⟩
    refine ⟨d, c, 1 + r, rfl, D3, by omega, by omega, fun x pb H3 hx hpb D4 b4 => ?_⟩
    refine ⟨x, pb, rfl, hx, hpb, fun p ws H4 s4 np hp hw => ?_⟩
    have D5 := D4.same s4
    have hpd := D4.ref np
    refine ⟨_, rfl, by decide, by decide, for_range (lo := 0) (n := 4) (fun i2 σ' H' => ∃ (z5 z6 : Option V), σ' = [some (.ref a), some (.ref d), some (.int (0 + (i : Int))), some (.int (1 + r)), some (.ref p), z5, z6] ∧ DeckAt d c H' ∧ LW H' p ws) ⟨_, _, rfl, D5, hp⟩ ?_ ?_⟩
    · rintro i2 σ' H5 hi2 ⟨z5, z6, rfl, D6, hp5⟩
      refine ⟨_, rfl, _, rfl, _, rfl, ?_⟩
      refine ⟨d, c, p, ws, rfl, D6, hp5, hpd.1, hpd.2, hw, fun p7 ws7 H7 hp7 hw7 pd7 pc7 D7 b7 => ?_⟩
      have hp57 : LW H7 p ws := b7 _ _ hpd.1 hpd.2 hp5
      refine ⟨d, c, p7, ws7, rfl, D7, hp7, pd7, pc7, hw7, fun t H8 ht1 ht2 D8 b8 => ?_⟩
      have hp8 : LW H8 p ws := b8 _ _ hpd.1 hpd.2 hp57
      refine ⟨fun σ' H9 => ∃ t : Wd, t.length < 60000 ∧ t.count 59 ≤ 14 ∧ σ' = [some (.ref a), some (.ref d), some (.int (0 + (i : Int))), some (.int (1 + r)), some (.ref p), some (.int (0 + (i2 : Int))), some (.str (S t))] ∧ DeckAt d c H9 ∧ LW H9 p ws, ?_, ?_⟩
      · refine ⟨_, rfl, ?_⟩
        refine ⟨d, c, 4, rfl, D8, by decide, by decide, fun r9 H9 _ _ D9 b9 => ?_⟩
        have hp9 : LW H9 p ws := b9 _ _ hpd.1 hpd.2 hp8
        refine ⟨rfl, _, rfl, ?_⟩
        have hl : (S t).length ≤ sizeLine := by rw [S_len]; exact Nat.le_trans (Nat.le_of_lt ht1) (by decide)
        refine ite2 (fun h1 => ?_) (fun h1 => ?_)
        · refine ⟨_, rfl, _, rfl, _, rfl, _, rfl, hl, _, _, rfl, rfl, ?_⟩
          refine ⟨d, c, ((S t).length : Int) + 1, rfl, D9, by omega, by rw [S_len]; omega, fun r10 H10 q1 q2 D10 b10 => ?_⟩
          have hp10 : LW H10 p ws := b10 _ _ hpd.1 hpd.2 hp9
          obtain ⟨n, rfl⟩ := Int.eq_ofNat_of_zero_le q1
          refine ⟨_, rfl, _, rfl, hl, ?_⟩
          rw [S_taken]
          refine ⟨t.take n, by rw [List.length_take]; omega, ?_, rfl, D10, hp10⟩
          have := List.Sublist.count_le 59 (List.take_sublist n t)
          omega
        · exact ⟨t, ht1, ht2, rfl, D9, hp9⟩
      · rintro σ' H9 ⟨t, ht1, ht2, rfl, D9, hp9⟩
        have hlt : t.length < sizeLine := Nat.lt_of_lt_of_le ht1 (by decide)
        have hsem : semis (toks t 0) < 300 := by
          have := semis_toks t 0
          rw [List.drop_zero] at this
          omega
        have hcnt := toks_cnt t 0 (Nat.zero_le _)
        refine ⟨_, rfl, ?_⟩
        refine ⟨_, rfl, .inl ⟨t, rfl, hlt, hsem, fun y1 H10 hy1 s10 => ?_⟩⟩
        refine ⟨_, rfl, ?_⟩
        refine ⟨t, rfl, hlt, fun y2 H11 hy2 s11 => ?_⟩
        refine ⟨y1, y2, _, rfl, hy1.mono (Same.tups s11), hy2, sz_ans (by omega), fun H12 s12 => ?_⟩
        refine ⟨_, rfl, ?_⟩
        refine iteF ?_
        have D12 := ((D9.same s10).same s11).same s12
        exact ⟨_, _, rfl, D12, s12 _ _ (s11 _ _ (s10 _ _ hp9))⟩
    · rintro σ' H5 ⟨z5, z6, rfl, D6, hp5⟩
      refine ⟨(by show 1 ≤ sizeLine; decide), fun p3 np3 => ?_⟩
      refine ⟨(by show 2 ≤ sizeLine; decide), fun p4 np4 => ?_⟩
      refine ⟨(by show 4 ≤ sizeLine; decide), fun p5 np5 => ?_⟩
      have D7 := ((D6.put (o := .tup [.str (PySem.Str.ofString "problem 1")]) np3).put (o := .lst [.str (PySem.Str.ofString "problem"), .str (PySem.Str.ofString "1")]) np4).put (o := .lst [.non, .int 1, .ref p3, .ref p4]) np5
      have e3 := D6.ref np3
      have e4 := (D6.put (o := .tup [.str (PySem.Str.ofString "problem 1")]) np3).ref np4
      have e5 := ((D6.put (o := .tup [.str (PySem.Str.ofString "problem 1")]) np3).put (o := .lst [.str (PySem.Str.ofString "problem"), .str (PySem.Str.ofString "1")]) np4).ref np5
      have n34 : p3 ≠ p4 := ne_of_none upd_same np4
      have n45 : p4 ≠ p5 := ne_of_none upd_same np5
      have n35 : p3 ≠ p5 := ne_of_none (by rw [upd_ne n34]; exact upd_same) np5
      refine ⟨_, rfl, ?_⟩
      refine ⟨d, c, 4, rfl, D7, by decide, by decide, fun r8 H8 q1 q2 D8 b8 => ?_⟩
      have g3 : H8 p3 = some (.tup [.str (PySem.Str.ofString "problem 1")]) := b8 _ _ e3.1 e3.2 (by rw [upd_ne n35, upd_ne n34]; exact upd_same)
      have g4 : H8 p4 = some (.lst [.str (PySem.Str.ofString "problem"), .str (PySem.Str.ofString "1")]) := b8 _ _ e4.1 e4.2 (by rw [upd_ne n45]; exact upd_same)
      have g5 := b8 _ _ e5.1 e5.2 upd_same
      obtain ⟨v, hv, hm⟩ := sel_len (xs := [.non, .int 1, .ref p3, .ref p4]) q1 q2
      have hno : NoStr K H8 v := by
        rcases List.mem_cons.mp hm with rfl | hm
        · exact ⟨.type "NoneType", kit_ty (b := "str") (r := false) (by decide +kernel), fun _ _ => .base .non⟩
        rcases List.mem_cons.mp hm with rfl | hm
        · exact ⟨.type "int", kit_ty (b := "str") (r := false) (by decide +kernel), fun _ _ => .base (.int _)⟩
        rcases List.mem_cons.mp hm with rfl | hm
        · exact ⟨.type "tuple", kit_ty (b := "str") (r := false) (by decide +kernel), fun _ s => .base (.tup (s _ _ g3))⟩
        · rw [List.mem_singleton.mp hm]
          exact ⟨.type "list", kit_ty (b := "str") (r := false) (by decide +kernel), fun _ s => .base (.lst (s _ _ g4))⟩
      refine ⟨_, _, _, _, rfl, rfl, SqL.of g5, hv, ?_⟩
      refine ⟨_, rfl, .inr ⟨hno, fun y H9 hy s9 => ?_⟩⟩
      refine ⟨(by show 2 ≤ sizeLine; decide), fun p6 np6 => ?_⟩
      have s10 := Same.new (o := .tup [.non, .int 0]) (Same.refl H9) np6
      refine ⟨y, .ref p6, _, rfl, hy.mono (Same.tups s10), .tup upd_same (.cons .non (.cons (.int _) .nil)), by show 1 + (1 + (1 + 0)) ≤ _; decide, fun H12 s12 => ?_⟩
      refine ⟨_, rfl, ?_⟩
      refine iteF ?_
      exact ⟨_, _, _, _, _, rfl, ((D8.same s9).same s10).same s12⟩
  · rintro σ' H' ⟨z2, z3, z4, z5, z6, rfl, D2⟩
    exact k _
end
end K77
/-! The head's hook, with the facts of BadText beside it. -/
namespace K77
open PySem PySem.Spec PyProof.Rows L2
open PySem.W (findIn typeIn keepIn subIn hasDictIn exmOne codeIn nsIn kitCls alongIn)
abbrev FnC : Type := Option (Str × Str × Arguments × FuncBody × Scope × Addr × Addr)
abbrev bC (K : PySem.W.Frag) : Addr := He.ga K "BadText"
abbrev bI (K : PySem.W.Frag) : Addr := He.fAd K ("BadText", some "__init__")
def fnC (K : PySem.W.Frag) : FnC := match K.lookup (bI K) with
  | some ⟨_, _, .func fd, _⟩ => some (fd.name, fd.qualname, fd.params, fd.body, fd.scope, fd.globals, fd.builtins)
  | _ => none
def valC : FnC := some ("__init__", "BadText.__init__", PySem.BTX.iA, .stmts PySem.BTX.iB, PySem.BTX.bScope, mainGlobals, builtinsNs)
def clsB (K : PySem.W.Frag) (C : Addr) : Bool := match K.lookup C with
  | some ⟨.type t, _, .cls cd, sl⟩ => (match cd.mro, sl.toList with
    | .ref C' :: bm, [_, _, _, _, some (.builtin n), _] => decide (t = "type") && (decide (C' = C) && (decide (n = "ValueError.__new__") && (!cd.hasDel && (cd.hasDict && (PySem.HandSPX.refsVE bm && decide (alongIn K "__init__" bm = some (some (.builtin "ValueError.__init__"))))))))
    | _, _ => false)
  | _ => false
def cloB (K : PySem.W.Frag) (cl : List (Str × Addr)) : Bool := match cl with
  | [(n, cc)] => decide (n = "__class__") && (match K.lookup cc with
    | some ⟨_, _, .cell (some (.ref c)), _⟩ => decide (c = bC K)
    | _ => false)
  | _ => false
def codB (file : Str) (K : PySem.W.Frag) (cd : Value) : Bool := match cd with
  | .ref cda => codeIn K (.ref cda) "BadText.__init__" && (match K.lookup cda with
    | some ⟨_, _, .fields vs, _⟩ => (match (vs[2]? : Option Value) with
      | some (Value.str f _) => file == f
      | _ => false)
    | _ => false)
  | _ => false
def defB (v : Value) : Bool := match v with
  | .none => true
  | _ => false
def iniB (file : Str) (K : PySem.W.Frag) : Bool := match K.lookup (bI K) with
  | some ⟨_, _, .func fd, _⟩ => cloB K fd.closure && (codB file K fd.code && defB fd.defaults)
  | _ => false
def btB (file : Str) (K : PySem.W.Frag) : Bool :=
  decide (nsIn K cStatics "thirdparty.any" = some none) && (clsB K (bC K) && (decide (findIn K (.ref (bC K)) "__setattr__" = some (some (.builtin "object.__setattr__"))) && (decide (findIn K (.ref (bC K)) "__getattribute__" = some (some (.builtin "BaseException.__getattribute__"))) &&
  (decide (findIn K (.ref (bC K)) "__getattr__" = some none) && (decide (findIn K (.ref (bC K)) "place" = some none) && (decide (findIn K (.ref (bC K)) "__init__" = some (some (.ref (bI K)))) && (decide (typeIn K (.ref (bI K)) = some (.type "function")) &&
  (keepIn K (.ref (bC K)) && (decide (subIn K (.ref (bC K)) (.type "BaseException") = some true) && (decide (subIn K (.ref (bC K)) (.type "ValueError") = some true) && (decide (typeIn K (.ref (bC K)) = some (.type "type")) && (hasDictIn K (bC K) &&
  (decide (exmOne K (.ref (bC K)) (.ref (bC K)) = some true) && (iniB file K && (decide (kitCls K (.ref (bC K)) (.ref (He.ga K "SumError")) = some true) && (decide (kitCls K (.ref (bC K)) (.type "ValueError") = some true) && decide ((Value.ref (bC K) == Value.ref (He.ga K "SumError")) = false)))))))))))))))))
end K77
namespace K77
open PySem PySem.Spec PyProof.Rows L2
open PySem.W (findIn typeIn keepIn subIn hasDictIn exmOne codeIn nsIn kitCls alongIn)
theorem dd {p : Prop} [Decidable p] (h : decide p = true) : p := of_decide_eq_true h
theorem clsB_ok {K : PySem.W.Frag} {C : Addr} (q : clsB K C = true) : ∃ nm q N bs bm sn sub ab col dd k0 k1 k2 k3 k5, K.lookup C = some (excClassObj nm q C N bs bm true sn sub ab col dd k0 k1 k2 k3 k5 "ValueError.__new__") ∧ PySem.HandSPX.refsVE bm = true ∧ alongIn K "__init__" bm = some (some (.builtin "ValueError.__init__")) := by
  unfold clsB at q
  split at q
  · rename_i t od cd sl ho
    split at q
    · rename_i C' bm k0 k1 k2 k3 n k5 hm hs
      simp only [Bool.and_eq_true, decide_eq_true_eq, Bool.not_eq_true'] at q
      obtain ⟨rfl, rfl, rfl, hdel, hdd, hr, ha⟩ := q
      obtain ⟨nm, bs, mro, ns, qn, hd, sn, sub, ab, col, del⟩ := cd
      dsimp only at hm hdel hdd
      subst hm hdel hdd
      have hsl : sl = #[k0, k1, k2, k3, some (.builtin "ValueError.__new__"), k5] := by
        obtain ⟨l⟩ := sl
        simp only at hs
        rw [hs]
      subst hsl
      exact ⟨nm, qn, ns, bs, bm, sn, sub, ab, col, od, k0, k1, k2, k3, k5, ho, hr, ha⟩
    · cases q
  · cases q
theorem iniB_ok {K : PySem.W.Frag} {file : Str} (q : iniB file K = true) (e : fnC K = valC) :
    ∃ (oc : Value) (od : Option Addr) (kV doc pm : Value) (an : Option Addr) (cda cc : Addr) (ct : Value) (osl : Array (Option Value)),
    K.lookup (bI K) = some ⟨oc, od, .func (PySem.W.fnX "__init__" "BadText.__init__" PySem.BTX.iA PySem.BTX.iB PySem.BTX.bScope [("__class__", cc)] .none kV doc pm an (.ref cda) ct), osl⟩ ∧ codeIn K (.ref cda) "BadText.__init__" = true ∧
    (∃ cl od' sl, K.lookup cc = some ⟨cl, od', .cell (some (.ref (bC K))), sl⟩) ∧
    (∃ cl od' vs sl f tf, K.lookup cda = some ⟨cl, od', .fields vs, sl⟩ ∧ vs[2]? = some (.str f tf) ∧ (file == f) = true) := by
  unfold iniB at q
  unfold fnC at e
  split at q
  · rename_i oc od fd osl ho
    rw [ho] at e
    obtain ⟨n1, n2, n3, n4, n5, n6, n7, n8, n9, n10, n11, n12, n13, n14, n15⟩ := fd
    have e2 : (some (n1, n2, n3, n4, n5, n6, n15) : FnC) = valC := e
    unfold valC at e2
    simp only [Option.some.injEq, Prod.mk.injEq] at e2
    obtain ⟨h1, h2, h3, h4, h5, h6, h7⟩ := e2
    subst h1 h2 h3 h4 h5 h6 h7
    obtain ⟨q1, q⟩ := He.ba q
    obtain ⟨q2, q3⟩ := He.ba q
    have q1 : cloB K n7 = true := q1
    have q2 : codB file K n13 = true := q2
    have q3 : defB n8 = true := q3
    cases n8 with
    | none =>
      cases n13 with
      | ref cda =>
        cases n7 with
        | nil => cases q1
        | cons x r =>
          cases r with
          | cons y r => cases q1
          | nil =>
            obtain ⟨n, cc⟩ := x
            have q1 : (decide (n = "__class__") && (match K.lookup cc with
              | some ⟨_, _, .cell (some (.ref c)), _⟩ => decide (c = bC K)
              | _ => false)) = true := q1
            have q2 : (codeIn K (.ref cda) "BadText.__init__" && (match K.lookup cda with
              | some ⟨_, _, .fields vs, _⟩ => (match (vs[2]? : Option Value) with
                | some (Value.str f _) => file == f
                | _ => false)
              | _ => false)) = true := q2
            obtain ⟨z1, z2⟩ := He.ba q1
            obtain ⟨y1, y2⟩ := He.ba q2
            have z1 := dd z1
            subst z1
            split at z2
            · rename_i cl od' c sl hcc
              have z2 := dd z2
              subst z2
              split at y2
              · rename_i cl2 od2 vs sl2 hcd
                split at y2
                · rename_i f tf hvs
                  exact ⟨oc, od, n9, n10, n11, n12, cda, cc, n14, osl, ho, y1, ⟨_, _, _, hcc⟩, ⟨_, _, _, _, f, tf, hcd, hvs, y2⟩⟩
                · cases y2
              · cases y2
            · cases z2
      | _ => cases q2
    | _ => cases q3
  · cases q
theorem btB_ok {prog : Program} {K : PySem.W.Frag} {mg : Str → Option Value} (q : btB prog.main.file K = true) (e : fnC K = valC) (gC : mg "BadText" = some (.ref (bC K))) (noS : mg "super" = none) (top : (prog.main.scope.names.lookup ("super" : Str)).isSome = false) :
    PySem.BTX.BtTxt prog K mg (bC K) (bI K) ∧ kitCls K (.ref (bC K)) (.ref (He.ga K "SumError")) = some true ∧ kitCls K (.ref (bC K)) (.type "ValueError") = some true ∧ (Value.ref (bC K) == Value.ref (He.ga K "SumError")) = false := by
  unfold btB at q
  obtain ⟨a1, q⟩ := He.ba q
  obtain ⟨a2, q⟩ := He.ba q
  obtain ⟨a3, q⟩ := He.ba q
  obtain ⟨a4, q⟩ := He.ba q
  obtain ⟨a5, q⟩ := He.ba q
  obtain ⟨a6, q⟩ := He.ba q
  obtain ⟨a7, q⟩ := He.ba q
  obtain ⟨a8, q⟩ := He.ba q
  obtain ⟨a9, q⟩ := He.ba q
  obtain ⟨a10, q⟩ := He.ba q
  obtain ⟨a11, q⟩ := He.ba q
  obtain ⟨a12, q⟩ := He.ba q
  obtain ⟨a13, q⟩ := He.ba q
  obtain ⟨a14, q⟩ := He.ba q
  obtain ⟨a15, q⟩ := He.ba q
  obtain ⟨a16, q⟩ := He.ba q
  obtain ⟨a17, a18⟩ := He.ba q
  exact ⟨⟨gC, noS, top, dd a1, clsB_ok a2, dd a3, dd a4, dd a5, dd a6, dd a7, dd a8, a9, dd a10, dd a11, dd a12, a13, dd a14, iniB_ok a15 e⟩, dd a16, dd a17, dd a18⟩
/-! the hook -/
abbrev AlB : Type := Bool × (FnC × He.AlD)
def asB (g : Addr → Option Obj) (n : Nat) : List Addr := cStatics :: He.asD g n
def obsK (file : Str) (fa : List He.Fa) (fn : List He.DefD) (K : PySem.W.Frag) : AlB := (btB file K, fnC K, He.obsD fa fn K)
def valK (fn : List He.DefD) : AlB := (true, valC, He.valD fn)
def obsB (file : Str) (n : Nat) (fa : List He.Fa) (fn : List He.DefD) (g : Addr → Option Obj) : AlB := obsK file fa fn (He.frG g (asB g n))
def hookB (file : Str) (n : Nat) (fa : List He.Fa) (fn : List He.DefD) : PySem.W.Hook where
  α := AlB
  obs := fun s => obsB file n fa fn s.heap.get?
  val := fun _ => valK fn
  says := fun _ h => ∃ K : PySem.W.Frag, K.In h ∧ obsK file fa fn K = valK fn
  of := fun _ _ e => ⟨_, He.frG_in, e⟩
  keeps := fun _ _ _ ⟨K, hK, c⟩ k => ⟨K, PySem.W.Frag.In.keeps hK k, c⟩
theorem obsB_eq {file : Str} {n : Nat} {fa : List He.Fa} {fn : List He.DefD} {g : Addr → Option Obj} {s : Shared} (h : ∀ a, g a = s.heap.get? a) : obsB file n fa fn g = (hookB file n fa fn).obs s := by
  have e : g = s.heap.get? := funext h
  rw [e] <;> rfl
end K77
namespace K77
open PySem PySem.Spec PyProof.Rows L2
def fn : List He.DefD := [d_words_in, d_is_numeral, d_Reader___init__, d_Reader_word, d_Reader_stop, d_Reader_taken, d_Reader_goes_on, d_Reader_mark, d_Reader_numeral, d_Reader_number, d_Reader_end, d_is_variable_word, d_take_variable, d_take_literal, d_take_weight, d_take_terms, d_take_sum, d_take_price, d_read_problem, d_l_deck, d_l_pick, d_l_alike, d_l_sum, d_l_tied, d_l_split, d_l_number_words, d_l_literal_words, d_l_terms_words, d_l_problem_words, d_l_spread, d_l_now, d_l_stop, d_l_on, d_l_is_numeral, d_l_numeral, d_l_number, d_l_literal, d_l_terms, d_l_need, d_l_read, d_l_told, d_l_mixed, d_law]
def fa : List He.Fa := [.glo "words_in", .glo "is_numeral", .glo "is_variable_word", .glo "take_variable", .glo "take_literal", .glo "take_weight", .glo "take_terms", .glo "take_sum", .glo "take_price", .glo "read_problem", .glo "_law_deck", .glo "_law_pick", .glo "_law_alike", .glo "_law_sum", .glo "_law_tied", .glo "_law_split", .glo "_law_number_words", .glo "_law_literal_words", .glo "_law_terms_words", .glo "_law_problem_words", .glo "_law_spread", .glo "_law_now", .glo "_law_stop", .glo "_law_on", .glo "_law_is_numeral", .glo "_law_numeral", .glo "_law_number", .glo "_law_literal", .glo "_law_terms", .glo "_law_need", .glo "_law_read", .glo "_law_told", .glo "_law_mixed", .glo "law", .free "len", .free "int", .free "str", .free "abs", .free "min", .free "sum", .free "all", .free "sorted", .free "list", .free "tuple", .free "bool", .free "range", .free "isinstance", .free "ValueError", .int "MOST_VARIABLES" 60, .int "MOST_SUMS" 300, .int "MOST_NUMBER" 1000000, .str "SMALL_LETTERS" "abcdefghijklmnopqrstuvwxyz", .str "DIGITS" "0123456789", .str "BLANKS" " \n", .int "LONGEST_NUMERAL" 30, .glo "Reader", .cls "Reader", .noat "Reader" "many", .noat "Reader" "words", .noat "Reader" "at", .mkr "Reader", .meth "Reader" "word", .meth "Reader" "stop", .meth "Reader" "taken", .meth "Reader" "goes_on", .meth "Reader" "mark", .meth "Reader" "numeral", .meth "Reader" "number", .meth "Reader" "end", .glo "BadText", .free "super", .glo "SumError"]
abbrev R : PySem.W.OpenRow := PySem.W.OpenLaw.row PySem.Challenge.rw_sumsworn_k77_texts_that_are_none
abbrev hk : PySem.W.Hook := hookB R.prog.main.file 5 fa fn
def ob (s : PySem.W.SharedT) : AlB := obsB R.prog.main.file 5 fa fn (HandSHeadRun.getT s)
theorem ob_eq (s : PySem.W.SharedT) : ob s = hk.obs s.abs := obsB_eq (HandSHeadRun.getT_eq s)
def loose1 : List Str := ["__name__", "SumError", "BadText", "MOST_VARIABLES", "MOST_SUMS", "MOST_NUMBER", "SMALL_LETTERS", "DIGITS", "BLANKS", "LONGEST_NUMERAL", "words_in", "is_numeral", "Reader", "is_variable_word", "take_variable", "take_literal", "take_weight", "take_terms", "take_sum", "take_price", "read_problem", "_law_deck", "_law_pick", "_law_alike", "_law_sum", "_law_tied", "_law_split", "_law_number_words", "_law_literal_words", "_law_terms_words"]
def loose2 : List Str := ["_law_problem_words", "_law_spread", "_law_now", "_law_stop", "_law_on", "_law_is_numeral", "_law_numeral", "_law_number", "_law_literal", "_law_terms", "_law_need", "_law_read", "_law_told", "_law_mixed"]
def loose : List Str := loose1 ++ loose2
theorem run (w : World) : HandSHeadRun.RunEq R (PySem.W.view R.prog [47]) hk ob 3000 loose w := by
  intro os
  kernel_rfl
theorem txt {K : PySem.W.Frag} {h : Heap} {mg : Str → Option Value} (X : K.In h) (G : h.Ns mainGlobals mg) (c0 : obsK R.prog.main.file fa fn K = valK fn) : Txt PySem.Challenge.rw_sumsworn_k77_texts_that_are_none.prog K mg := by
  have c : He.SaysD fa fn K := congrArg (fun z : AlB => z.2.2) c0
  have e : fnC K = valC := congrArg (fun z : AlB => z.2.1) c0
  have q : btB R.prog.main.file K = true := congrArg (fun z : AlB => z.1) c0
  obtain ⟨b1, b2, b3, b4⟩ := btB_ok (prog := PySem.Challenge.rw_sumsworn_k77_texts_that_are_none.prog) q e (He.glo_ok X G (c.fact 69 (f := .glo "BadText") rfl)) (He.free_ok X G (c.fact 70 (f := .free "super") rfl)) (by decide +kernel)
  exact {
    g_words_in := He.glo_ok X G (c.fact 0 (f := .glo "words_in") rfl),
    F_words_in := fdO_ok (c.def_ 0 (d := d_words_in) rfl),
    g_is_numeral := He.glo_ok X G (c.fact 1 (f := .glo "is_numeral") rfl),
    F_is_numeral := fdO_ok (c.def_ 1 (d := d_is_numeral) rfl),
    F_Reader___init__ := fdO_ok (c.def_ 2 (d := d_Reader___init__) rfl),
    F_Reader_word := fdO_ok (c.def_ 3 (d := d_Reader_word) rfl),
    F_Reader_stop := fdO_ok (c.def_ 4 (d := d_Reader_stop) rfl),
    F_Reader_taken := fdO_ok (c.def_ 5 (d := d_Reader_taken) rfl),
    F_Reader_goes_on := fdO_ok (c.def_ 6 (d := d_Reader_goes_on) rfl),
    F_Reader_mark := fdO_ok (c.def_ 7 (d := d_Reader_mark) rfl),
    F_Reader_numeral := fdO_ok (c.def_ 8 (d := d_Reader_numeral) rfl),
    F_Reader_number := fdO_ok (c.def_ 9 (d := d_Reader_number) rfl),
    F_Reader_end := fdO_ok (c.def_ 10 (d := d_Reader_end) rfl),
    g_is_variable_word := He.glo_ok X G (c.fact 2 (f := .glo "is_variable_word") rfl),
    F_is_variable_word := fdO_ok (c.def_ 11 (d := d_is_variable_word) rfl),
    g_take_variable := He.glo_ok X G (c.fact 3 (f := .glo "take_variable") rfl),
    F_take_variable := fdO_ok (c.def_ 12 (d := d_take_variable) rfl),
    g_take_literal := He.glo_ok X G (c.fact 4 (f := .glo "take_literal") rfl),
    F_take_literal := fdO_ok (c.def_ 13 (d := d_take_literal) rfl),
    g_take_weight := He.glo_ok X G (c.fact 5 (f := .glo "take_weight") rfl),
    F_take_weight := fdO_ok (c.def_ 14 (d := d_take_weight) rfl),
    g_take_terms := He.glo_ok X G (c.fact 6 (f := .glo "take_terms") rfl),
    F_take_terms := fdO_ok (c.def_ 15 (d := d_take_terms) rfl),
    g_take_sum := He.glo_ok X G (c.fact 7 (f := .glo "take_sum") rfl),
    F_take_sum := fdO_ok (c.def_ 16 (d := d_take_sum) rfl),
    g_take_price := He.glo_ok X G (c.fact 8 (f := .glo "take_price") rfl),
    F_take_price := fdO_ok (c.def_ 17 (d := d_take_price) rfl),
    g_read_problem := He.glo_ok X G (c.fact 9 (f := .glo "read_problem") rfl),
    F_read_problem := fdO_ok (c.def_ 18 (d := d_read_problem) rfl),
    g__law_deck := He.glo_ok X G (c.fact 10 (f := .glo "_law_deck") rfl),
    F_l_deck := fdO_ok (c.def_ 19 (d := d_l_deck) rfl),
    g__law_pick := He.glo_ok X G (c.fact 11 (f := .glo "_law_pick") rfl),
    F_l_pick := fdO_ok (c.def_ 20 (d := d_l_pick) rfl),
    g__law_alike := He.glo_ok X G (c.fact 12 (f := .glo "_law_alike") rfl),
    F_l_alike := fdO_ok (c.def_ 21 (d := d_l_alike) rfl),
    g__law_sum := He.glo_ok X G (c.fact 13 (f := .glo "_law_sum") rfl),
    F_l_sum := fdO_ok (c.def_ 22 (d := d_l_sum) rfl),
    g__law_tied := He.glo_ok X G (c.fact 14 (f := .glo "_law_tied") rfl),
    F_l_tied := fdO_ok (c.def_ 23 (d := d_l_tied) rfl),
    g__law_split := He.glo_ok X G (c.fact 15 (f := .glo "_law_split") rfl),
    F_l_split := fdO_ok (c.def_ 24 (d := d_l_split) rfl),
    g__law_number_words := He.glo_ok X G (c.fact 16 (f := .glo "_law_number_words") rfl),
    F_l_number_words := fdO_ok (c.def_ 25 (d := d_l_number_words) rfl),
    g__law_literal_words := He.glo_ok X G (c.fact 17 (f := .glo "_law_literal_words") rfl),
    F_l_literal_words := fdO_ok (c.def_ 26 (d := d_l_literal_words) rfl),
    g__law_terms_words := He.glo_ok X G (c.fact 18 (f := .glo "_law_terms_words") rfl),
    F_l_terms_words := fdO_ok (c.def_ 27 (d := d_l_terms_words) rfl),
    g__law_problem_words := He.glo_ok X G (c.fact 19 (f := .glo "_law_problem_words") rfl),
    F_l_problem_words := fdO_ok (c.def_ 28 (d := d_l_problem_words) rfl),
    g__law_spread := He.glo_ok X G (c.fact 20 (f := .glo "_law_spread") rfl),
    F_l_spread := fdO_ok (c.def_ 29 (d := d_l_spread) rfl),
    g__law_now := He.glo_ok X G (c.fact 21 (f := .glo "_law_now") rfl),
    F_l_now := fdO_ok (c.def_ 30 (d := d_l_now) rfl),
    g__law_stop := He.glo_ok X G (c.fact 22 (f := .glo "_law_stop") rfl),
    F_l_stop := fdO_ok (c.def_ 31 (d := d_l_stop) rfl),
    g__law_on := He.glo_ok X G (c.fact 23 (f := .glo "_law_on") rfl),
    F_l_on := fdO_ok (c.def_ 32 (d := d_l_on) rfl),
    g__law_is_numeral := He.glo_ok X G (c.fact 24 (f := .glo "_law_is_numeral") rfl),
    F_l_is_numeral := fdO_ok (c.def_ 33 (d := d_l_is_numeral) rfl),
    g__law_numeral := He.glo_ok X G (c.fact 25 (f := .glo "_law_numeral") rfl),
    F_l_numeral := fdO_ok (c.def_ 34 (d := d_l_numeral) rfl),
    g__law_number := He.glo_ok X G (c.fact 26 (f := .glo "_law_number") rfl),
    F_l_number := fdO_ok (c.def_ 35 (d := d_l_number) rfl),
    g__law_literal := He.glo_ok X G (c.fact 27 (f := .glo "_law_literal") rfl),
    F_l_literal := fdO_ok (c.def_ 36 (d := d_l_literal) rfl),
    g__law_terms := He.glo_ok X G (c.fact 28 (f := .glo "_law_terms") rfl),
    F_l_terms := fdO_ok (c.def_ 37 (d := d_l_terms) rfl),
    g__law_need := He.glo_ok X G (c.fact 29 (f := .glo "_law_need") rfl),
    F_l_need := fdO_ok (c.def_ 38 (d := d_l_need) rfl),
    g__law_read := He.glo_ok X G (c.fact 30 (f := .glo "_law_read") rfl),
    F_l_read := fdO_ok (c.def_ 39 (d := d_l_read) rfl),
    g__law_told := He.glo_ok X G (c.fact 31 (f := .glo "_law_told") rfl),
    F_l_told := fdO_ok (c.def_ 40 (d := d_l_told) rfl),
    g__law_mixed := He.glo_ok X G (c.fact 32 (f := .glo "_law_mixed") rfl),
    F_l_mixed := fdO_ok (c.def_ 41 (d := d_l_mixed) rfl),
    g_law := He.glo_ok X G (c.fact 33 (f := .glo "law") rfl),
    F_law := fdO_ok (c.def_ 42 (d := d_law) rfl),
    z_len := He.free_ok X G (c.fact 34 (f := .free "len") rfl),
    z_int := He.free_ok X G (c.fact 35 (f := .free "int") rfl),
    z_str := He.free_ok X G (c.fact 36 (f := .free "str") rfl),
    z_abs := He.free_ok X G (c.fact 37 (f := .free "abs") rfl),
    z_min := He.free_ok X G (c.fact 38 (f := .free "min") rfl),
    z_sum := He.free_ok X G (c.fact 39 (f := .free "sum") rfl),
    z_all := He.free_ok X G (c.fact 40 (f := .free "all") rfl),
    z_sorted := He.free_ok X G (c.fact 41 (f := .free "sorted") rfl),
    z_list := He.free_ok X G (c.fact 42 (f := .free "list") rfl),
    z_tuple := He.free_ok X G (c.fact 43 (f := .free "tuple") rfl),
    z_bool := He.free_ok X G (c.fact 44 (f := .free "bool") rfl),
    z_range := He.free_ok X G (c.fact 45 (f := .free "range") rfl),
    z_isinstance := He.free_ok X G (c.fact 46 (f := .free "isinstance") rfl),
    z_ValueError := He.free_ok X G (c.fact 47 (f := .free "ValueError") rfl),
    c_MOST_VARIABLES := He.int_ok X G (c.fact 48 (f := .int "MOST_VARIABLES" 60) rfl),
    c_MOST_SUMS := He.int_ok X G (c.fact 49 (f := .int "MOST_SUMS" 300) rfl),
    c_MOST_NUMBER := He.int_ok X G (c.fact 50 (f := .int "MOST_NUMBER" 1000000) rfl),
    c_SMALL_LETTERS := He.str_ok X G (c.fact 51 (f := .str "SMALL_LETTERS" "abcdefghijklmnopqrstuvwxyz") rfl),
    c_DIGITS := He.str_ok X G (c.fact 52 (f := .str "DIGITS" "0123456789") rfl),
    c_BLANKS := He.str_ok X G (c.fact 53 (f := .str "BLANKS" " \n") rfl),
    c_LONGEST_NUMERAL := He.int_ok X G (c.fact 54 (f := .int "LONGEST_NUMERAL" 30) rfl),
    g_Reader := He.glo_ok X G (c.fact 55 (f := .glo "Reader") rfl),
    cl_Reader := He.cls_ok (c.fact 56 (f := .cls "Reader") rfl),
    n_Reader_many := He.noat_ok (c.fact 57 (f := .noat "Reader" "many") rfl),
    n_Reader_words := He.noat_ok (c.fact 58 (f := .noat "Reader" "words") rfl),
    n_Reader_at := He.noat_ok (c.fact 59 (f := .noat "Reader" "at") rfl),
    mk_Reader := He.mkr_ok (c.fact 60 (f := .mkr "Reader") rfl),
    m_Reader_word := He.meth_ok (c.fact 61 (f := .meth "Reader" "word") rfl),
    m_Reader_stop := He.meth_ok (c.fact 62 (f := .meth "Reader" "stop") rfl),
    m_Reader_taken := He.meth_ok (c.fact 63 (f := .meth "Reader" "taken") rfl),
    m_Reader_goes_on := He.meth_ok (c.fact 64 (f := .meth "Reader" "goes_on") rfl),
    m_Reader_mark := He.meth_ok (c.fact 65 (f := .meth "Reader" "mark") rfl),
    m_Reader_numeral := He.meth_ok (c.fact 66 (f := .meth "Reader" "numeral") rfl),
    m_Reader_number := He.meth_ok (c.fact 67 (f := .meth "Reader" "number") rfl),
    m_Reader_end := He.meth_ok (c.fact 68 (f := .meth "Reader" "end") rfl),
    bt := b1, g_SumError := He.glo_ok X G (c.fact 71 (f := .glo "SumError") rfl), kSum := b2, kVal := b3, neSum := b4 }
theorem facts {w : World} {K : PySem.W.Frag} {h : Heap} {mg : Str → Option Value} {f : Addr} (X : K.In h) (G : h.Ns mainGlobals mg) (hfa : mg ("law" : Str) = some (.ref f)) (c0 : obsK R.prog.main.file fa fn K = valK fn) :
    ∃ fd : FuncData, (∀ (s : Shared) (v : Value), BindsTo s fd ⟨[v], []⟩ [("script", v)]) ∧ ∀ base : Heap, K.In base → base.Ns mainGlobals mg → FnOk PySem.Challenge.rw_sumsworn_k77_texts_that_are_none.prog w K mg base CX0 11 f fd ["script"] (spLaw K) := by
  have T := txt X G c0
  have e := hfa.symm.trans T.g_law
  cases e
  have b := FunD.bindsA (ps := ["script"]) T.F_law fun _ _ _ _ _ _ us hl => match us, hl with | [_], _ => rfl
  exact ⟨fdO K ("law", none), fun s v => b s [v] rfl, fun base _ _ => ok_law T⟩
end K77
open PySem PySem.W PySem.Calls PyProof.Rows
theorem PySem.Challenge.cw_sumsworn_k77_texts_that_are_none_holds : PySem.Challenge.rw_sumsworn_k77_texts_that_are_none.Holds := by
  w_on; o_law
  refine HandSHeadRun.head_any (r := OpenLaw.row PySem.Challenge.rw_sumsworn_k77_texts_that_are_none) (q := view (OpenLaw.row PySem.Challenge.rw_sumsworn_k77_texts_that_are_none).prog [47]) (H := K77.hk) (ob := K77.ob) (M := 3000) (loose := K77.loose) (d := HandSHeadRun.topDef (OpenLaw.row PySem.Challenge.rw_sumsworn_k77_texts_that_are_none).prog 47) (kwd := []) K77.ob_eq
    (by kernel_rfl) (fun s => by kernel_rfl) K77.run (by kernel_rfl) (by kernel_rfl) (by kernel_rfl) (by rfl) (by first | assumption | decide +kernel) (by decide +kernel) ⟨rfl, rfl, rfl, rfl, rfl, by decide +kernel⟩ ?hw ?hc
  case hw => w_witness2
  case hc =>
    refine L2.walk_ofE (l := PySem.Challenge.rw_sumsworn_k77_texts_that_are_none) (n := 63) (k := 11) (x := "script") (CX := L2.CX0) rfl (by decide) (by kernel_rfl) ⟨rfl, by decide, by decide⟩ ?F (fun _ _ _ _ z => z)
    intro w mg fa h Y G hmg0
    obtain ⟨K, KX, c⟩ := Y
    have hmg : mg ("law" : PySem.Str) = some (.ref fa) := by
      have e : (HandSHeadRun.topDef (OpenLaw.row PySem.Challenge.rw_sumsworn_k77_texts_that_are_none).prog 47).name = ("law" : PySem.Str) := by kernel_rfl
      rw [← e]
      exact hmg0
    obtain ⟨fd, hb, hF⟩ := K77.facts (w := w) KX G hmg c
    exact ⟨K, fd, K77.spLaw K, KX, hb, fun H a ns hl _ hS => ⟨a, ns, rfl, hS, hl, fun _ => rfl⟩, hF⟩
