import PyProof.Rows.All
import Wide.All
import OpenK.AllK
import Wide.FinOn
import PyProof.StrOps2
import PyProof.Rows.RuleB_pow
import HandS.ForMost
import HandS.ForExc
import HandS.IsInst
import HandS.RevRange
import HandS.Wide
import HandS.Style
import HandS.Codes
import HandS.Flow
import HandS.Steps
import HandS.ExcCtx
import HandS.HotCalls
import HandS.ExcIs
import PySem.Challenge.RW_textwrapper_k02_paragraphs_cut
set_option Elab.async false
set_option linter.all false
set_option maxRecDepth 100000
set_option maxHeartbeats 4000000
namespace Tw
open PySem PySem.Spec PyProof.Rows L2

/-! ### texts as lists of codes -/
def tx (l : List Nat) : Str := ⟨l.toArray⟩
abbrev vt (l : List Nat) : V := .str (tx l)
abbrev vts (ws : List (List Nat)) : List V := ws.map vt
abbrev vis (ns : List Int) : List V := ns.map V.int
theorem tx_inj {a b : List Nat} (h : tx a = tx b) : a = b := by
  have h2 := congrArg (fun s => s.cps.toList) h
  simpa [tx] using h2
theorem vt_inj {a b : List Nat} : vt a = vt b ↔ a = b :=
  ⟨fun h => tx_inj (V.str.inj h), fun h => by rw [h]⟩
theorem tx_app (a b : List Nat) : tx a ++ tx b = tx (a ++ b) := by
  show (⟨a.toArray ++ b.toArray⟩ : Str) = ⟨(a ++ b).toArray⟩
  simp
theorem tx_len (a : List Nat) : (tx a).length = a.length := by
  show a.toArray.size = _
  simp
theorem tx_list (a : List Nat) : (tx a).cps.toList = a := by
  show a.toArray.toList = a
  simp
theorem tx_size (a : List Nat) : (tx a).cps.size = a.length := by
  show a.toArray.size = _
  simp
theorem tx_get (a : List Nat) (i : Nat) : (tx a).cps[i]? = a[i]? := by
  show a.toArray[i]? = _
  simp
theorem tx_sign (c : Nat) : (⟨#[c]⟩ : Str) = tx [c] := rfl
theorem str_tx (s : Str) : s = tx s.cps.toList := by
  obtain ⟨l⟩ := s
  rfl
theorem vts_inj {a b : List (List Nat)} (h : vts a = vts b) : a = b :=
  (List.map_inj_right (fun x y e => vt_inj.mp e)).mp h
theorem vis_inj {a b : List Int} (h : vis a = vis b) : a = b :=
  (List.map_inj_right (fun x y e => V.int.inj e)).mp h
theorem dec_vt {a b : List Nat} : decide (vt a = vt b) = decide (a = b) := by
  by_cases h : a = b
  · rw [decide_eq_true h, decide_eq_true (vt_inj.mpr h)]
  · rw [decide_eq_false h, decide_eq_false (fun e => h (vt_inj.mp e))]
theorem dec_vi {a b : Int} : decide (V.int a = V.int b) = decide (a = b) := by
  by_cases h : a = b
  · rw [decide_eq_true h, decide_eq_true (by rw [h])]
  · rw [decide_eq_false h, decide_eq_false (fun e => h (V.int.inj e))]

/-! ### heaps -/
theorem _root_.L2.Same.new {H H1 : Hp} {p : Addr} {o : HO} (s : Same H H1) (n : H1 p = none) : Same H (upd H1 p o) := fun b x e => by
  rw [upd_ne (ne_of_none (s b x e) n)]
  exact s b x e
/-- a store to what was made behind H -/
theorem _root_.L2.Same.put {H H1 : Hp} {p : Addr} {o : HO} (s : Same H H1) (n : H p = none) : Same H (upd H1 p o) := fun b x e => by
  rw [upd_ne (ne_of_none e n)]
  exact s b x e
theorem kept {H : Hp} {p q : Addr} {x o : HO} (h : H q = some x) (n : H p = none) : upd H p o q = some x := by
  rw [upd_ne (ne_of_none h n)]
  exact h
theorem _root_.L2.Same.seqT {K : PySem.W.Frag} {H H' : Hp} {a : Addr} {xs : List V} (e : Same H H') (h : SqT K H a xs) : SqT K H' a xs := by
  rcases h with (h | ⟨o, h⟩) | h
  · exact .inl (.inl (e _ _ h))
  · exact .inl (.inr ⟨o, e _ _ h⟩)
  · exact .inr h

/-! ### the built-in names that the text does not bind -/
structure Bts (mg : Str → Option Value) : Prop where
  m_len : mg "len" = none
  m_range : mg "range" = none
  m_max : mg "max" = none
  m_sum : mg "sum" = none
  m_int : mg "int" = none
  m_bool : mg "bool" = none
  m_str : mg "str" = none
  m_list : mg "list" = none
  m_isinstance : mg "isinstance" = none
  m_sorted : mg "sorted" = none
  m_reversed : mg "reversed" = none
  m_ValueError : mg "ValueError" = none

/-! ### a def of the text -/
structure At (K : PySem.W.Frag) (mg : Str → Option Value) (x : Str) (ps : List Str) (st : Stmt) : Prop where
  ex : ∃ f fd, mg x = some (.ref f) ∧ Fun K x x st f fd ∧ Binds K fd ps []
structure Ok (P : Program) (w : World) (K : PySem.W.Frag) (mg : Str → Option Value) (base : Heap) (CX : CXT) (k : Nat) (x : Str) (ps : List Str) (sp : Sp) : Prop where
  ex : ∃ f fd, mg x = some (.ref f) ∧ PySem.W.keepIn K (.ref f) = true ∧ Binds K fd ps [] ∧ FnOk P w K mg base CX k f fd ps sp
section
variable {P : Program} {w : World} {K : PySem.W.Frag} {mg : Str → Option Value} {base : Heap}
theorem At.ok {x : Str} {ps N : List Str} {st : Stmt} {k : Nat} {sp : Sp} (A : At K mg x ps st) (S : FnScope N ps (defScope st))
    (len : ∀ vs H Q E, sp vs H Q E → vs.length = ps.length)
    (hbody : ∀ (f cdv : _) (A : Around) (outer : List Env) (s : Shared) (H : Hp) (vs : List V) (Q : VK) (E : XK),
      Room k (A.deeper (envOfC x (defScope st) s.heap.objs.size f cdv)) → sp vs H Q E →
      ∃ t, PSs (cxOf CX0 P w K mg base N x (defScope st) f cdv A outer s H E).nox (defBody st) t ∧
        t { nx := fun _ H' => Q .non H', rt := Q } (start N vs) H) :
    Ok P w K mg base CX0 (k + 1) x ps sp := by
  obtain ⟨f, fd, g, F, b⟩ := A.ex
  exact ⟨f, fd, g, F.kp, b, F.ok S len (hbody f)⟩
/-- a call of it -/
theorem pe_cd {X : Cx} {CX : CXT} {k : Nat} {x : Str} {ps : List Str} {sp : Sp} {E : XK} {e : Expr} {es : List Expr} {t : TA} {p pos : Pos}
    (G : Ok X.prog X.w X.K X.mg X.base CX k x ps sp) (hr : Room k X.A) (hx : Passes CX X E) (ha : PA X (e :: es) t)
    (hg : Gl X x := by rfl) (hdb : (x == ("__debug__" : Str)) = false := by decide)
    (he : starEach (e :: es) X.env = (false, eval e X.env) :: starEach es X.env := by rfl)
    (hpl : (backTo pos (starEach es X.env)).any (·.1) = false := by rfl) :
    PE X (.Call (.Name x p) (e :: es) [] pos) (tCall sp [] E t) := by
  obtain ⟨f, fd, g, kp, b, F⟩ := G.ex
  exact pe_call F hr hg g kp b .nil hx ha hdb he hpl
/-- .. the wish of an exception at the caller's slots -/
theorem pe_cdS {X : Cx} {CX : CXT} {k : Nat} {x : Str} {ps : List Str} {sp : Sp} {E : L2.St → XK} {e : Expr} {es : List Expr} {t : TA} {p pos : Pos}
    (G : Ok X.prog X.w X.K X.mg X.base CX k x ps sp) (hr : Room k X.A) (hx : ∀ σ, PassesAt CX X σ (E σ)) (ha : PA X (e :: es) t)
    (hg : Gl X x := by rfl) (hdb : (x == ("__debug__" : Str)) = false := by decide)
    (he : starEach (e :: es) X.env = (false, eval e X.env) :: starEach es X.env := by rfl)
    (hpl : (backTo pos (starEach es X.env)).any (·.1) = false := by rfl) :
    PE X (.Call (.Name x p) (e :: es) [] pos) (tCallS sp E t) := by
  obtain ⟨f, fd, g, kp, b, F⟩ := G.ex
  exact pe_callS F hr hg g kp b hx ha hdb he hpl
end
theorem Ok.mono {P : Program} {w : World} {K : PySem.W.Frag} {mg : Str → Option Value} {base : Heap} {CX : CXT} {j k : Nat} {x : Str} {ps : List Str} {sp : Sp}
    (G : Ok P w K mg base CX j x ps sp) (h : j ≤ k) : Ok P w K mg base CX k x ps sp := by
  obtain ⟨f, fd, g, kp, b, F⟩ := G.ex
  exact ⟨f, fd, g, kp, b, F.mono h⟩
/-! ### operators that the layer lacks -/
/-- text * int -/
theorem op_mulS {X : Cx} : OpR X (binaryOp .Mult) (fun x y H Q => ∃ (l : List Nat) (n : Int), x = vt l ∧ y = .int n ∧
    -(2 ^ 63) ≤ n ∧ n < 2 ^ 63 ∧ l.length * n.toNat ≤ sizeLine ∧ Q (vt (List.replicate n.toNat l).flatten) H) := by
  intro pins s σ H x y v u Q I rx ry h
  obtain ⟨l, n, rfl, rfl, h1, h2, hz, q⟩ := h
  obtain ⟨t, rfl⟩ := rx
  obtain ⟨t', rfl⟩ := ry
  have hsl : sizeLine = 16777216 := sizeLine_eq
  have fin : ∀ (z : Str) (tk : Nat) (t0 : Tok), z = tx (List.replicate n.toNat l).flatten → EP X pins σ Q (.str z t0) { s with toks := tk } := fun z tk t0 e => by
    subst e
    exact ⟨vt (List.replicate n.toNat l).flatten, H, I.tok tk, ⟨_, rfl⟩, q⟩
  have ffold : ∀ (m : Nat) (acc : List Nat), (List.replicate m l.toArray).foldl (· ++ ·) acc.toArray = (acc ++ (List.replicate m l).flatten).toArray := by
    intro m
    induction m with
    | zero => intro acc; simp
    | succ m ih =>
      intro acc
      rw [List.replicate_succ, List.foldl_cons, List.append_toArray, ih, List.replicate_succ, List.flatten_cons, List.append_assoc]
  refine PySem.P.mul_str ?_ (fun a b => ?_) (fun a b => ?_) ?_
  · rw [decide_eq_false (by omega), decide_eq_false (by omega)]; rfl
  · rw [tx_len]
    have hn : 1 ≤ n := by omega
    have : (l.length : Int) * n ≤ 16777216 := by
      rw [hsl] at hz
      have e : ((n.toNat : Nat) : Int) = n := Int.toNat_of_nonneg (by omega)
      have hz2 : ((l.length * n.toNat : Nat) : Int) ≤ ((16777216 : Nat) : Int) := Int.ofNat_le.mpr hz
      rw [Int.natCast_mul, e] at hz2
      omega
    intro hgt
    have : (2 ^ 63 - 1 : Int) / n < l.length := hgt
    have h3 := (Int.ediv_lt_iff_lt_mul (a := 2 ^ 63 - 1) (b := (l.length : Int)) (c := n) (by omega)).mp this
    omega
  · rw [tx_len]
    show decide _ = false
    exact decide_eq_false (Nat.not_lt.mpr hz)
  · by_cases a : n < 1
    · rw [if_pos a]
      have e0 : n.toNat = 0 := by omega
      refine ⟨by decide, ?_⟩
      exact fin _ _ _ (by rw [e0]; rfl)
    · rw [if_neg a]
      by_cases b : (n == 1 || (tx l).length == 0) = true
      · rw [if_pos b]
        have e1 : (List.replicate n.toNat l).flatten = l := by
          rcases Bool.or_eq_true_iff.mp b with b | b
          · have : n = 1 := eq_of_beq b
            subst this
            simp
          · have : l = [] := by
              have := eq_of_beq b
              rw [tx_len] at this
              exact List.length_eq_zero_iff.mp this
            subst this
            simp
        show EP X pins σ Q (.str (tx l) t) s
        exact fin (tx l) s.toks t (by rw [e1])
      · rw [if_neg b]
        have e2 : (⟨(List.replicate n.toNat (tx l).cps).foldl (· ++ ·) #[]⟩ : Str) = tx (List.replicate n.toNat l).flatten := by
          have := ffold n.toNat []
          show (⟨(List.replicate n.toNat l.toArray).foldl (· ++ ·) #[]⟩ : Str) = ⟨(List.replicate n.toNat l).flatten.toArray⟩
          rw [show (#[] : Array Nat) = ([] : List Nat).toArray from rfl, this]
          rfl
        have e3 : (List.replicate n.toNat l).flatten.length ≤ sizeLine := by
          rw [List.length_flatten, List.map_replicate, List.sum_replicate_nat, Nat.mul_comm]
          exact hz
        rw [e2]
        first
          | exact ⟨by rw [tx_len]; exact e3, fin _ _ _ rfl⟩
          | exact fin _ _ _ rfl
/-- powers of numbers of a known size -/
theorem op_powW {X : Cx} : OpR X (binaryOp .Pow) (fun x y H Q => ∃ i j : Int, x = .int i ∧ y = .int j ∧ 0 ≤ j ∧ (Builtin.Int.intBits i : Int) * j ≤ 2 ^ 27 ∧ Q (.int (i ^ j.toNat)) H) := by
  intro pins s σ H x y v u Q I rx ry h
  obtain ⟨i, j, rfl, rfl, h1, h2, q⟩ := h
  obtain ⟨t, rfl⟩ := rx
  obtain ⟨t', rfl⟩ := ry
  exact PyProof.Rows.pow_int h1 h2 ⟨.int _, H, I.tok _, ⟨_, rfl⟩, q⟩

/-! ### == of lists of ints and texts -/
def flat : V → Bool
  | .int _ => true
  | .str z => PyData.strOk z
  | _ => false
def pd : V → PyData
  | .int i => .int i
  | .str z => .str z
  | _ => .none
theorem pd_eqv : ∀ {a b : V}, flat a = true → flat b = true → PyData.eqv (pd a) (pd b) = decide (a = b) := by
  intro a b ha hb
  cases a <;> first | exact absurd ha Bool.false_ne_true | skip
  all_goals (cases b <;> first | exact absurd hb Bool.false_ne_true | skip)
  · rename_i i j
    show (i == j) = _
    rw [dec_vi, Bool.beq_eq_decide_eq]
  · simp [pd, PyData.eqv]
  · simp [pd, PyData.eqv]
  · rename_i i j
    show (i == j) = _
    rw [Bool.beq_eq_decide_eq]
    by_cases e : i = j
    · subst e; simp
    · rw [decide_eq_false e, decide_eq_false (fun z => e (V.str.inj z))]
theorem pd_eqvAll : ∀ {xs ys : List V}, xs.all flat = true → ys.all flat = true → PyData.eqvAll (xs.map pd) (ys.map pd) = decide (xs = ys) := by
  intro xs
  induction xs with
  | nil =>
    intro ys _ _
    cases ys with
    | nil => simp [PyData.eqvAll]
    | cons y r => simp [PyData.eqvAll]
  | cons x r ih =>
    intro ys hx hy
    cases ys with
    | nil => simp [PyData.eqvAll]
    | cons y q =>
      simp only [List.all_cons, Bool.and_eq_true] at hx hy
      show (PyData.eqv (pd x) (pd y) && PyData.eqvAll (r.map pd) (q.map pd)) = _
      rw [pd_eqv hx.1 hy.1, ih hx.2 hy.2]
      by_cases e1 : x = y
      · by_cases e2 : r = q
        · subst e1 e2; simp
        · simp [e2]
      · simp [e1]
theorem dpAll {K : PySem.W.Frag} {H : Hp} : ∀ {xs : List V}, xs.all flat = true → DpAll K H xs (xs.map pd) := by
  intro xs
  induction xs with
  | nil => intro _; exact .nil
  | cons x r ih =>
    intro h
    simp only [List.all_cons, Bool.and_eq_true] at h
    refine .cons ?_ (ih h.2)
    have h1 := h.1
    cases x <;> first | exact absurd h1 Bool.false_ne_true | skip
    · exact .int _
    · exact .str _
theorem pd_lay : ∀ {x : V}, flat x = true → (pd x).canLay0 = true ∧ (pd x).depth = 0 := by
  intro x h
  cases x <;> first | exact absurd h Bool.false_ne_true | skip
  · exact ⟨by simp [pd, PyData.canLay0], by simp [pd, PyData.depth]⟩
  · exact ⟨by simp only [pd, PyData.canLay0]; exact h, by simp [pd, PyData.depth]⟩
theorem pd_layAll : ∀ {xs : List V}, xs.all flat = true → PyData.canLayAll0 (xs.map pd) = true ∧ PyData.depthAll (xs.map pd) = 0 := by
  intro xs
  induction xs with
  | nil => intro _; exact ⟨by simp [PyData.canLayAll0], by simp [PyData.depthAll]⟩
  | cons x r ih =>
    intro h
    simp only [List.all_cons, Bool.and_eq_true] at h
    obtain ⟨h1, h2⟩ := pd_lay h.1
    obtain ⟨h3, h4⟩ := ih h.2
    exact ⟨by simp [PyData.canLayAll0, h1, h3], by simp [PyData.depthAll, h2, h4]⟩
theorem pd_shaped {xs : List V} (h : xs.all flat = true) : SeqAt.shaped (.list (xs.map pd)) = true := by
  obtain ⟨h1, h2⟩ := pd_layAll h
  simp [SeqAt.shaped, PyData.canLay0, PyData.depth, h1, h2]
def rEqL (K : PySem.W.Frag) : R2 := fun x y H Q => ∃ a b xs ys, x = .ref a ∧ y = .ref b ∧ SqL K H a xs ∧ SqL K H b ys ∧ xs.all flat = true ∧ ys.all flat = true ∧ Q (.bl (decide (xs = ys))) H
def rNeL (K : PySem.W.Frag) : R2 := fun x y H Q => ∃ a b xs ys, x = .ref a ∧ y = .ref b ∧ SqL K H a xs ∧ SqL K H b ys ∧ xs.all flat = true ∧ ys.all flat = true ∧ Q (.bl (!decide (xs = ys))) H
theorem op_eqL {X : Cx} {k : Nat} (hr : Room k X.A) : OpR X (compareOp .Eq) (rEqL X.K) := by
  intro pins s σ H x y v u Q I rx ry h
  obtain ⟨a, b, xs, ys, rfl, rfl, ha, hb, fa, fb, q⟩ := h
  refine op_eqD hr.units pins s σ H _ _ v u Q I rx ry ⟨_, _, .lst ha (dpAll fa), .lst hb (dpAll fb), pd_shaped fa, pd_shaped fb, ?_⟩
  show Q (.bl (PyData.eqvAll _ _)) H
  rw [pd_eqvAll fa fb]
  exact q
theorem op_neL {X : Cx} {k : Nat} (hr : Room k X.A) : OpR X (compareOp .NotEq) (rNeL X.K) := by
  intro pins s σ H x y v u Q I rx ry h
  obtain ⟨a, b, xs, ys, rfl, rfl, ha, hb, fa, fb, q⟩ := h
  refine op_neD hr.units pins s σ H _ _ v u Q I rx ry ⟨_, _, .lst ha (dpAll fa), .lst hb (dpAll fb), pd_shaped fa, pd_shaped fb, ?_⟩
  show Q (.bl (!PyData.eqvAll _ _)) H
  rw [pd_eqvAll fa fb]
  exact q
theorem flat_vis (ns : List Int) : (vis ns).all flat = true := by
  simp [flat]
end Tw
namespace Tw
open PySem PySem.Spec PyProof.Rows L2
/-! ### loops by what is done and what is to come -/
theorem split_at {α : Type} {l : List α} {i : Nat} {c : α} (h : l[i]? = some c) : l = l.take i ++ c :: l.drop (i + 1) ∧ l.drop i = c :: l.drop (i + 1) ∧ l.take (i + 1) = l.take i ++ [c] := by
  obtain ⟨hi, e⟩ := List.getElem?_eq_some_iff.mp h
  have d : l.drop i = c :: l.drop (i + 1) := by
    rw [List.drop_eq_getElem_cons hi, e]
  refine ⟨?_, d, ?_⟩
  · rw [← d, List.take_append_drop]
  · rw [List.take_add_one, h]; rfl
/-- over the signs of a text -/
theorem for_txt {l : List Nat} {g : TG} {tb : TS} {D : Ends} {σ : L2.St} {H : Hp} (Pv : List Nat → List Nat → L2.St → Hp → Prop) (h0 : Pv [] l σ H)
    (hs : ∀ a c b σ H, l = a ++ c :: b → Pv a (c :: b) σ H → g (vt [c]) σ H fun σ2 H2 => tb { D with nx := Pv (a ++ [c]) b, ct := Pv (a ++ [c]) b, bk := D.nx } σ2 H2)
    (hd : ∀ σ H, Pv l [] σ H → D.nx σ H) :
    ∃ W : Nat → Nat → L2.St → Hp → Prop, (∃ m, W 0 m σ H) ∧ ∀ i m σ H, W i m σ H →
      ((Its (tx l)).stop i H ∧ D.nx σ H) ∨ ((Its (tx l)).go i H ∧ ∃ N : L2.St → Hp → Prop, (∀ σ' H', N σ' H' → ∃ m', m' < m ∧ W (i + 1) m' σ' H') ∧
        ∀ x H', (Its (tx l)).yld i H x H' → g x σ H' fun σ2 H2 => tb { D with nx := N, ct := N, bk := D.nx } σ2 H2) := by
  refine ⟨fun i m σ H => m = l.length - i ∧ i ≤ l.length ∧ Pv (l.take i) (l.drop i) σ H, ⟨l.length, by simp, Nat.zero_le _, by simpa using h0⟩, ?_⟩
  rintro i m σ H ⟨rfl, hi, p⟩
  by_cases hlt : i < l.length
  · have hc : l[i]? = some l[i] := List.getElem?_eq_getElem hlt
    obtain ⟨e1, e2, e3⟩ := split_at hc
    refine .inr ⟨?_, Pv (l.take i ++ [l[i]]) (l.drop (i + 1)), fun σ' H' p' => ⟨l.length - (i + 1), by omega, rfl, hlt, ?_⟩, fun x H' y => ?_⟩
    · show i < (tx l).cps.size
      rw [tx_size]; exact hlt
    · rw [e3]; exact p'
    · obtain ⟨e, c, hc', rfl⟩ := y
      subst e
      rw [tx_get, hc] at hc'
      have ec := Option.some.inj hc'
      subst ec
      rw [e2] at p
      exact hs (l.take i) l[i] (l.drop (i + 1)) σ _ e1 p
  · have e : i = l.length := by omega
    subst e
    refine .inl ⟨?_, hd σ H ?_⟩
    · show (tx l).cps.size ≤ l.length
      rw [tx_size]; exact Nat.le_refl _
    · simpa using p
/-- over a list that the body leaves as it is; the items by f -/
theorem for_lst {α : Type} {f : α → V} {K : PySem.W.Frag} {a : Addr} {l : List α} {g : TG} {tb : TS} {D : Ends} {σ : L2.St} {H : Hp} (Pv : List α → List α → L2.St → Hp → Prop) (h0 : Pv [] l σ H)
    (hl : ∀ d r σ H, Pv d r σ H → SqL K H a (l.map f))
    (hs : ∀ d c b σ H, l = d ++ c :: b → Pv d (c :: b) σ H → g (f c) σ H fun σ2 H2 => tb { D with nx := Pv (d ++ [c]) b, ct := Pv (d ++ [c]) b, bk := D.nx } σ2 H2)
    (hd : ∀ σ H, Pv l [] σ H → D.nx σ H) :
    ∃ W : Nat → Nat → L2.St → Hp → Prop, (∃ m, W 0 m σ H) ∧ ∀ i m σ H, W i m σ H →
      ((Itl K a).stop i H ∧ D.nx σ H) ∨ ((Itl K a).go i H ∧ ∃ N : L2.St → Hp → Prop, (∀ σ' H', N σ' H' → ∃ m', m' < m ∧ W (i + 1) m' σ' H') ∧
        ∀ x H', (Itl K a).yld i H x H' → g x σ H' fun σ2 H2 => tb { D with nx := N, ct := N, bk := D.nx } σ2 H2) := by
  refine for_list (xs := l.map f) (fun i σ H => Pv (l.take i) (l.drop i) σ H) (by simpa using h0) (fun i σ H _ p => hl _ _ _ _ p) (fun i x σ H hx p => ?_) (fun σ H p => hd σ H (by simpa using p))
  rw [List.getElem?_map] at hx
  cases hc : l[i]? with
  | none => rw [hc] at hx; cases hx
  | some c =>
    rw [hc] at hx
    have ex : f c = x := Option.some.inj hx
    subst ex
    obtain ⟨e1, e2, e3⟩ := split_at hc
    rw [e2] at p
    rw [e3]
    exact hs _ _ _ σ H e1 p

theorem last_eq {α : Type} {l d : List α} {a c : α} (h : l ++ [a] = d ++ [c]) : a = c := by
  have := (List.append_inj' h rfl).2
  exact (List.cons.inj this).1
theorem vts_app (ws : List (List Nat)) (h : List Nat) : vts (ws ++ [h]) = vts ws ++ [vt h] := List.map_append
theorem vis_app (ws : List Int) (h : Int) : vis (ws ++ [h]) = vis ws ++ [.int h] := List.map_append
theorem flat_get {α : Type} {f : α → V} {l : List α} {i : Nat} {x : α} (h : l[i]? = some x) : (l.map f)[i]? = some (f x) := by
  rw [List.getElem?_map, h]; rfl
/-! ### literals -/
theorem lit_sp : PySem.Str.ofString " " = tx [32] := by decide +kernel
theorem lit_nl : PySem.Str.ofString "\n" = tx [10] := by decide +kernel
theorem lit_nil : PySem.Str.ofString "" = tx [] := by decide +kernel
theorem ne_vt {a b : List Nat} {x : Str} (e : x = tx b) : (!decide (vt a = V.str x)) = !decide (a = b) := by
  rw [e, dec_vt]
theorem ne_sg {a b : Nat} {x : Str} (e : x = tx [b]) : (!decide (vt [a] = V.str x)) = !decide (a = b) := by
  rw [ne_vt e]
  simp
theorem sz {n : Nat} (h : n ≤ 16777216 := by omega) : n ≤ sizeLine := by
  rw [sizeLine_eq]; exact h
theorem szl {n : Nat} (h : n < 16777216 := by omega) : n < sizeLine := by
  rw [sizeLine_eq]; exact h
/-! ### tests -/
theorem tst {b : Bool} {c A B : Prop} [Decidable c] (e : b = decide c) (h1 : c → A) (h2 : ¬ c → B) : if b = true then A else B := by
  subst e
  by_cases h : c
  · rw [if_pos (decide_eq_true h)]; exact h1 h
  · rw [if_neg (by simpa using h)]; exact h2 h
theorem tsn {b : Bool} {c A B : Prop} [Decidable c] (e : b = !decide c) (h1 : ¬ c → A) (h2 : c → B) : if b = true then A else B := by
  subst e
  by_cases h : c
  · rw [if_neg (by simpa using h)]; exact h2 h
  · rw [if_pos (by simpa using h)]; exact h1 h
/-! ### slices -/
theorem cut_from {α : Type} (f : α → V) (l : List α) (k : Nat) : cutV (l.map f) (some (k : Int)) none = (l.drop k).map f := by
  unfold cutV
  rw [show HT.sIx (l.map f).length 0 (some (k : Int)) = min k (l.map f).length from HT.sIx_nat _ 0 k, HT.sIx_none, List.length_map, List.map_drop]
  by_cases h : k ≤ l.length
  · rw [Nat.min_eq_left h, List.take_of_length_le (by simp)]
  · have h2 : l.length ≤ k := by omega
    rw [Nat.min_eq_right h2, List.drop_of_length_le (by simp), List.drop_of_length_le (by simpa using h2)]
    simp
theorem cut_to {α : Type} (f : α → V) (l : List α) (k : Nat) : cutV (l.map f) none (some (k : Int)) = (l.take k).map f := by
  unfold cutV
  rw [show HT.sIx (l.map f).length (l.map f).length (some (k : Int)) = min k (l.map f).length from HT.sIx_nat _ _ k, HT.sIx_none, List.length_map, List.map_take, List.drop_zero, Nat.sub_zero]
  by_cases h : k ≤ l.length
  · rw [Nat.min_eq_left h]
  · have h2 : l.length ≤ k := by omega
    rw [Nat.min_eq_right h2, List.take_of_length_le (by simp), List.take_of_length_le (by simpa using h2)]
theorem cut_ft {α : Type} (f : α → V) (l : List α) (a b : Nat) : cutV (l.map f) (some (a : Int)) (some (b : Int)) = ((l.drop a).take (b - a)).map f := by
  unfold cutV
  rw [show HT.sIx (l.map f).length (l.map f).length (some (b : Int)) = min b (l.map f).length from HT.sIx_nat _ _ b, show HT.sIx (l.map f).length 0 (some (a : Int)) = min a (l.map f).length from HT.sIx_nat _ _ a, List.length_map, List.map_take, List.map_drop]
  by_cases ha : a ≤ l.length
  · rw [Nat.min_eq_left ha]
    by_cases hb : b ≤ l.length
    · rw [Nat.min_eq_left hb]
    · have h1 : (List.drop a (List.map f l)).length ≤ min b l.length - a := by
        rw [List.length_drop, List.length_map]; omega
      have h2 : (List.drop a (List.map f l)).length ≤ b - a := by
        rw [List.length_drop, List.length_map]; omega
      rw [List.take_of_length_le h1, List.take_of_length_le h2]
  · have h1 : List.drop (min a l.length) (List.map f l) = [] := List.drop_of_length_le (by rw [List.length_map]; omega)
    have h2 : List.drop a (List.map f l) = [] := List.drop_of_length_le (by rw [List.length_map]; omega)
    rw [h1, h2, List.take_nil, List.take_nil]
theorem le_sum_mem : ∀ {l : List Nat} {x : Nat}, x ∈ l → x ≤ l.sum
  | a :: r, x, h => by
    rw [List.sum_cons]
    rcases List.mem_cons.mp h with e | h
    · omega
    · have := le_sum_mem h; omega
/-! ### words -/
def wcut (h : List Nat) : List Nat → List (List Nat)
  | [] => if h = [] then [] else [h]
  | c :: r => if c = 32 ∨ c = 10 then (if h = [] then wcut [] r else h :: wcut [] r) else wcut (h ++ [c]) r
theorem wcut_b {c : Nat} {r : List Nat} (h : c = 32 ∨ c = 10) : wcut [] (c :: r) = wcut [] r := by
  simp only [wcut]; rw [if_pos h]; simp
theorem wcut_w {c : Nat} {r h : List Nat} (n : h ≠ []) (hc : c = 32 ∨ c = 10) : wcut h (c :: r) = h :: wcut [] r := by
  simp only [wcut]; rw [if_pos hc, if_neg n]
theorem wcut_s {c : Nat} {r h : List Nat} (hc : ¬ (c = 32 ∨ c = 10)) : wcut h (c :: r) = wcut (h ++ [c]) r := by
  simp only [wcut]; rw [if_neg hc]
theorem wcut_e {h : List Nat} (n : h ≠ []) : wcut h [] = [h] := by
  simp only [wcut]; rw [if_neg n]
theorem wcut_blank : ∀ (l h : List Nat), wcut h (l ++ [32]) = wcut h l
  | [], h => by simp [wcut]
  | c :: r, h => by
    simp only [List.cons_append, wcut]
    rw [wcut_blank r [], wcut_blank r (h ++ [c])]
theorem wcut_length : ∀ (l h : List Nat), (wcut h l).length ≤ l.length + 1
  | [], h => by simp only [wcut]; split <;> simp
  | c :: r, h => by
    simp only [wcut]
    have h1 := wcut_length r []
    have h2 := wcut_length r (h ++ [c])
    simp only [List.length_cons]
    split
    · split
      · omega
      · simp only [List.length_cons]; omega
    · omega
/-- what is in the words is in the text -/
theorem wcut_mem : ∀ (l h : List Nat) {x : List Nat} {c : Nat}, x ∈ wcut h l → c ∈ x → c ∈ h ∨ (c ∈ l ∧ c ≠ 32 ∧ c ≠ 10)
  | [], h, x, c, hx, hc => by
    simp only [wcut] at hx
    split at hx
    · cases hx
    · rw [List.mem_singleton.mp hx] at hc; exact .inl hc
  | d :: r, h, x, c, hx, hc => by
    simp only [wcut] at hx
    have up : ∀ {q : List Nat}, (c ∈ q ∨ (c ∈ r ∧ c ≠ 32 ∧ c ≠ 10)) → c ∈ q ∨ (c ∈ d :: r ∧ c ≠ 32 ∧ c ≠ 10) := fun z => z.imp id fun z => ⟨List.mem_cons_of_mem _ z.1, z.2⟩
    split at hx
    · split at hx
      · rcases up (wcut_mem r [] hx hc) with z | z
        · cases z
        · exact .inr z
      · rcases List.mem_cons.mp hx with e | hx
        · rw [e] at hc; exact .inl hc
        · rcases up (wcut_mem r [] hx hc) with z | z
          · cases z
          · exact .inr z
    · rename_i hd
      rcases wcut_mem r (h ++ [d]) hx hc with z | z
      · rcases List.mem_append.mp z with z | z
        · exact .inl z
        · rw [List.mem_singleton.mp z]
          exact .inr ⟨List.mem_cons_self, fun e => hd (.inl e), fun e => hd (.inr e)⟩
      · exact .inr ⟨List.mem_cons_of_mem _ z.1, z.2⟩
theorem wcut_ne : ∀ (l h : List Nat), [] ∉ wcut h l
  | [], h => by
    simp only [wcut]
    split
    · simp
    · rename_i n; simp; exact n
  | c :: r, h => by
    simp only [wcut]
    split
    · split
      · exact wcut_ne r []
      · rename_i n
        intro z
        rcases List.mem_cons.mp z with e | z
        · exact n e.symm
        · exact wcut_ne r [] z
    · exact wcut_ne r _
theorem wcut_plain : ∀ (l h : List Nat), (∀ c ∈ l, c ≠ 32 ∧ c ≠ 10) → wcut h l = if h ++ l = [] then [] else [h ++ l]
  | [], h, _ => by simp [wcut]
  | c :: r, h, hl => by
    have hc := hl c List.mem_cons_self
    simp only [wcut]
    rw [if_neg (by omega), wcut_plain r (h ++ [c]) fun d hd => hl d (List.mem_cons_of_mem _ hd)]
    simp
/-- the length of all signs in the words -/
def total (ws : List (List Nat)) : Nat := (ws.map List.length).sum
theorem wcut_total : ∀ (l h : List Nat), total (wcut h l) ≤ h.length + l.length
  | [], h => by
    simp only [wcut]
    split <;> simp [total]
  | c :: r, h => by
    simp only [wcut]
    have h1 := wcut_total r []
    have h2 := wcut_total r (h ++ [c])
    simp only [List.length_append, List.length_cons, List.length_nil] at h1 h2 ⊢
    split
    · split
      · omega
      · simp only [total, List.map_cons, List.sum_cons] at h1 ⊢; omega
    · omega
theorem one_word (l : List Nat) : wcut [] l = [l] ↔ (l ≠ [] ∧ 32 ∉ l ∧ 10 ∉ l) := by
  constructor
  · intro h
    refine ⟨fun e => ?_, fun z => ?_, fun z => ?_⟩
    · subst e; simp [wcut] at h
    · have := wcut_mem l [] (x := l) (c := 32) (by rw [h]; simp) z
      rcases this with z | z
      · cases z
      · exact z.2.1 rfl
    · have := wcut_mem l [] (x := l) (c := 10) (by rw [h]; simp) z
      rcases this with z | z
      · cases z
      · exact z.2.2 rfl
  · rintro ⟨h1, h2, h3⟩
    rw [wcut_plain l [] fun c hc => ⟨fun e => h2 (e ▸ hc), fun e => h3 (e ▸ hc)⟩]
    simp [h1]
/-- texts joined -/
def jn (y : List Nat) : List (List Nat) → List Nat
  | [] => []
  | [p] => p
  | p :: q :: r => p ++ (y ++ jn y (q :: r))
theorem jn_eq (y : List Nat) : ∀ ws : List (List Nat), TL.joinL y ws = jn y ws
  | [] => rfl
  | [_] => rfl
  | p :: q :: r => by
    show p ++ (y ++ TL.joinL y (q :: r)) = p ++ (y ++ jn y (q :: r))
    rw [jn_eq y (q :: r)]
theorem join_tx (y : List Nat) (ws : List (List Nat)) : Txt.join (tx y) (ws.map tx) = tx (jn y ws) := by
  rw [TL.join_eq]
  refine TL.ext_tl ?_
  have tlx : ∀ x : List Nat, TL.tl (tx x) = x := fun x => tx_list x
  rw [TL.tl_join, tlx, tlx, List.map_map, show (TL.tl ∘ tx) = (id : List Nat → List Nat) from funext tlx, List.map_id, jn_eq]
theorem jn_len (y : List Nat) : ∀ ws : List (List Nat), (jn y ws).length ≤ total ws + ws.length * y.length
  | [] => by simp [jn]
  | [p] => by simp [jn, total]
  | p :: q :: r => by
    have h := jn_len y (q :: r)
    have e : (p :: q :: r).length * y.length = (q :: r).length * y.length + y.length := by rw [List.length_cons, Nat.succ_mul]
    rw [e]
    show (p ++ (y ++ jn y (q :: r))).length ≤ _
    have e2 : total (p :: q :: r) = p.length + total (q :: r) := rfl
    rw [List.length_append, List.length_append, e2]
    omega
theorem jn_nil : ∀ ws : List (List Nat), jn [] ws = ws.flatten
  | [] => rfl
  | [p] => by simp [jn]
  | p :: q :: r => by
    show p ++ ([] ++ jn [] (q :: r)) = _
    rw [jn_nil (q :: r)]; rfl
theorem jn_mem {c : Nat} {ws : List (List Nat)} (h : c ∈ jn [] ws) : ∃ x ∈ ws, c ∈ x := by
  rw [jn_nil] at h
  obtain ⟨x, hx, hc⟩ := List.mem_flatten.mp h
  exact ⟨x, hx, hc⟩
/-- of such a text's signs -/
def plainTx (l : List Nat) : Prop := ∀ c ∈ l, c < 1114112
theorem plain_ok {l : List Nat} (h : plainTx l) : PyData.strOk (tx l) = true := by
  show l.toArray.all _ = true
  rw [List.all_toArray, List.all_eq_true]
  intro c hc
  exact decide_eq_true (h c hc)
theorem flat_vts {ws : List (List Nat)} (h : ∀ x ∈ ws, plainTx x) : (vts ws).all flat = true := by
  rw [List.all_map, List.all_eq_true]
  exact fun x hx => plain_ok (h x hx)
/-! ### the end: what the top has written -/
theorem at_mk {K : PySem.W.Frag} {h : Heap} {mg : Str → Option Value} {x : Str} {ps : List Str} {st : Stmt} {f : Addr} {oc kV dc pm cd ct : Value} {od an : Option Addr} {sl : Array (Option Value)}
    (X : K.In h) (G : h.Ns mainGlobals mg) (a : PySem.W.nsIn K mainGlobals x = some (some (.ref f)))
    (l : K.lookup f = some ⟨oc, od, .func (PySem.W.fnOf x x (defArgs st) (defBody st) (defScope st) .none kV dc pm an cd ct), sl⟩)
    (c : PySem.W.codeIn K cd x = true) (k : PySem.W.keepIn K (.ref f) = true)
    (b : ∀ (kV doc pm : Value) (an : Option Addr) (cdv ct : Value) (us : List Value), us.length = ps.length →
      bindArgs (PySem.W.fnOf x x (defArgs st) (defBody st) (defScope st) .none kV doc pm an cdv ct) ⟨us, []⟩ = pure (ps.zip us)) : At K mg x ps st := by
  have F := fun_mk (x := x) (qual := x) (st := st) l c k
  exact ⟨f, _, PySem.W.mg_of X G a, F, F.binds b⟩
structure LawAt (K : PySem.W.Frag) (fa : Addr) (x p : Str) (st : Stmt) : Prop where
  ex : ∃ fd, (∀ (s : Shared) (v : Value), BindsTo s fd ⟨[v], []⟩ [(p, v)]) ∧ Fun K x x st fa fd
theorem lawat_mk {K : PySem.W.Frag} {h : Heap} {mg : Str → Option Value} {x p : Str} {st : Stmt} {f fa : Addr} {oc kV dc pm cd ct : Value} {od an : Option Addr} {sl : Array (Option Value)}
    (X : K.In h) (G : h.Ns mainGlobals mg) (hfa : mg x = some (.ref fa)) (a : PySem.W.nsIn K mainGlobals x = some (some (.ref f)))
    (l : K.lookup f = some ⟨oc, od, .func (PySem.W.fnOf x x (defArgs st) (defBody st) (defScope st) .none kV dc pm an cd ct), sl⟩)
    (c : PySem.W.codeIn K cd x = true) (k : PySem.W.keepIn K (.ref f) = true)
    (b : ∀ (kV doc pm : Value) (an : Option Addr) (cdv ct : Value) (s : Shared) (v : Value),
      BindsTo s (PySem.W.fnOf x x (defArgs st) (defBody st) (defScope st) .none kV doc pm an cdv ct) ⟨[v], []⟩ [(p, v)]) : LawAt K fa x p st := by
  have e := hfa.symm.trans (PySem.W.mg_of X G a)
  cases e
  exact ⟨_, b kV dc pm an cd ct, fun_mk (x := x) (qual := x) (st := st) l c k⟩
theorem bts_mk {K : PySem.W.Frag} {h : Heap} {mg : Str → Option Value} (X : K.In h) (G : h.Ns mainGlobals mg)
    (z1 : PySem.W.nsIn K mainGlobals "len" = some none) (z2 : PySem.W.nsIn K mainGlobals "range" = some none) (z3 : PySem.W.nsIn K mainGlobals "max" = some none)
    (z4 : PySem.W.nsIn K mainGlobals "sum" = some none) (z5 : PySem.W.nsIn K mainGlobals "int" = some none) (z6 : PySem.W.nsIn K mainGlobals "bool" = some none)
    (z7 : PySem.W.nsIn K mainGlobals "str" = some none) (z8 : PySem.W.nsIn K mainGlobals "list" = some none) (z9 : PySem.W.nsIn K mainGlobals "isinstance" = some none)
    (za : PySem.W.nsIn K mainGlobals "sorted" = some none) (zb : PySem.W.nsIn K mainGlobals "reversed" = some none) (zc : PySem.W.nsIn K mainGlobals "ValueError" = some none) : Bts mg :=
  have n : ∀ {x : Str}, PySem.W.nsIn K mainGlobals x = some none → mg x = none := fun z => PySem.W.mg_none_of X G z
  ⟨n z1, n z2, n z3, n z4, n z5, n z6, n z7, n z8, n z9, n za, n zb, n zc⟩
end Tw
namespace Tw
open PySem PySem.Spec PyProof.Rows L2
/-! ### rows and paragraphs -/
def rows (h : List Nat) : List Nat → List (List Nat)
  | [] => [h]
  | c :: r => if c = 10 then h :: rows [] r else rows (h ++ [c]) r
theorem pre_nl (c : Nat) (r : List Nat) : TL.pre [10] (c :: r) = decide (c = 10) := by
  by_cases h : c = 10
  · subst h; simp [TL.pre]
  · simp [TL.pre, h]
    try (exact fun z => h z.symm)
theorem spl_rows : ∀ (l h : List Nat), TL.spl [10] 0 h l = rows h l
  | [], h => by simp [TL.spl, rows]
  | c :: r, h => by
    simp only [TL.spl, rows]
    rw [pre_nl]
    by_cases e : c = 10
    · rw [decide_eq_true e, if_pos rfl, if_pos e]
      show h :: TL.spl [10] 0 [] r = _
      rw [spl_rows r []]
    · rw [decide_eq_false e, if_neg Bool.false_ne_true, if_neg e, spl_rows r (h ++ [c])]
theorem split_tx (l : List Nat) : Txt.split (tx l) (tx [10]) = (rows [] l).map tx := by
  have h := TL.split_spl (tx l) (tx [10]) (by decide) (by
    have e : Builtin.Str.strKind (tx [10]) = 1 := by decide +kernel
    rw [e]
    unfold Builtin.Str.strKind
    split
    · decide
    · split <;> decide)
  have tlx : ∀ x : List Nat, TL.tl (tx x) = x := fun x => tx_list x
  rw [tlx, tlx, spl_rows] at h
  rw [← h, List.map_map]
  rw [show (tx ∘ TL.tl) = (id : Str → Str) from funext fun s => (str_tx s).symm, List.map_id]
theorem rows_length : ∀ (l h : List Nat), (rows h l).length ≤ l.length + 1
  | [], h => by simp [rows]
  | c :: r, h => by
    simp only [rows]
    have h1 := rows_length r []
    have h2 := rows_length r (h ++ [c])
    simp only [List.length_cons]
    split
    · simp only [List.length_cons]; omega
    · omega
theorem rows_total : ∀ (l h : List Nat), total (rows h l) ≤ h.length + l.length
  | [], h => by simp [rows, total]
  | c :: r, h => by
    simp only [rows]
    have h1 := rows_total r []
    have h2 := rows_total r (h ++ [c])
    simp only [List.length_append, List.length_cons, List.length_nil] at h1 h2 ⊢
    split
    · simp only [total, List.map_cons, List.sum_cons] at h1 ⊢; omega
    · omega
theorem rows_mem : ∀ (l h : List Nat) {x : List Nat} {c : Nat}, x ∈ rows h l → c ∈ x → c ∈ h ∨ (c ∈ l ∧ c ≠ 10)
  | [], h, x, c, hx, hc => by
    rw [List.mem_singleton.mp (show x ∈ [h] from hx)] at hc; exact .inl hc
  | d :: r, h, x, c, hx, hc => by
    simp only [rows] at hx
    split at hx
    · rcases List.mem_cons.mp hx with e | hx
      · rw [e] at hc; exact .inl hc
      · rcases rows_mem r [] hx hc with z | z
        · cases z
        · exact .inr ⟨List.mem_cons_of_mem _ z.1, z.2⟩
    · rename_i hd
      rcases rows_mem r (h ++ [d]) hx hc with z | z
      · rcases List.mem_append.mp z with z | z
        · exact .inl z
        · rw [List.mem_singleton.mp z]; exact .inr ⟨List.mem_cons_self, hd⟩
      · exact .inr ⟨List.mem_cons_of_mem _ z.1, z.2⟩
/-- the paragraphs of rows, h the words held -/
def paras (h : List (List Nat)) : List (List Nat) → List (List (List Nat))
  | [] => if h = [] then [] else [h]
  | r :: rs => if wcut [] r = [] ∧ h ≠ [] then h :: paras [] rs else paras (h ++ wcut [] r) rs
def parts (l : List Nat) : List (List (List Nat)) := paras [] (rows [] l)
/-- the same sign by sign: h the open paragraph's words, w whether this row has one, v the word held -/
def go (h : List (List Nat)) (w : Bool) (v : List Nat) : List Nat → List (List (List Nat))
  | [] => if h ++ (if v = [] then [] else [v]) = [] then [] else [h ++ (if v = [] then [] else [v])]
  | c :: t =>
    if c = 10 then
      (if v = [] ∧ w = false ∧ h ≠ [] then h :: go [] false [] t else go (h ++ (if v = [] then [] else [v])) false [] t)
    else if c = 32 then go (h ++ (if v = [] then [] else [v])) w [] t
    else go h true (v ++ [c]) t
theorem hold_nil (v : List Nat) : (if v = [] then [] else [v]) = ([] : List (List Nat)) ↔ v = [] := by
  by_cases e : v = []
  · simp [e]
  · simp [e]
theorem go_rows : ∀ (t a : List Nat) (h f : List (List Nat)) (v : List Nat) (w : Bool), (∀ r, wcut [] (a ++ r) = f ++ wcut v r) → w = decide (f ≠ [] ∨ v ≠ []) →
    go (h ++ f) w v t = paras h (rows a t)
  | [], a, h, f, v, w, ha, hw => by
    have e := ha []
    rw [List.append_nil] at e
    have e2 : f ++ wcut v [] = f ++ (if v = [] then [] else [v]) := rfl
    rw [e2] at e
    show (if h ++ f ++ (if v = [] then [] else [v]) = [] then [] else [h ++ f ++ (if v = [] then [] else [v])]) = paras h [a]
    show _ = if wcut [] a = [] ∧ h ≠ [] then h :: paras [] [] else paras (h ++ wcut [] a) []
    rw [e, List.append_assoc]
    generalize f ++ (if v = [] then [] else [v]) = q
    by_cases c : q = [] ∧ h ≠ []
    · rw [if_pos c, c.1, List.append_nil, if_neg c.2]; rfl
    · rw [if_neg c]; rfl
  | c :: t, a, h, f, v, w, ha, hw => by
    simp only [go, rows]
    by_cases c1 : c = 10
    · rw [if_pos c1, if_pos c1]
      have e := ha []
      rw [List.append_nil] at e
      have e2 : f ++ wcut v [] = f ++ (if v = [] then [] else [v]) := rfl
      rw [e2] at e
      show _ = if wcut [] a = [] ∧ h ≠ [] then h :: paras [] (rows [] t) else paras (h ++ wcut [] a) (rows [] t)
      have i1 : go [] false [] t = paras [] (rows [] t) := go_rows t [] [] [] [] false (fun r => rfl) (by simp)
      by_cases c2 : f = [] ∧ v = []
      · obtain ⟨rfl, rfl⟩ := c2
        have e3 : wcut [] a = [] := e
        have hw' : w = false := by rw [hw]; simp
        rw [e3]
        by_cases c3 : h = []
        · subst c3
          simpa using i1
        · simp [c3, hw', i1]
      · have e3 : ¬ wcut [] a = [] := by
          rw [e]
          intro z
          obtain ⟨z1, z2⟩ := List.append_eq_nil_iff.mp z
          exact c2 ⟨z1, (hold_nil v).mp z2⟩
        have hw' : w = true := by
          rw [hw]
          refine decide_eq_true ?_
          by_cases c3 : f = []
          · exact .inr fun z => c2 ⟨c3, z⟩
          · exact .inl c3
        have n1 : ¬ (v = [] ∧ w = false ∧ h ++ f ≠ []) := fun z => by rw [hw'] at z; exact Bool.noConfusion z.2.1
        have n2 : ¬ (wcut [] a = [] ∧ h ≠ []) := fun z => e3 z.1
        rw [if_neg n1, if_neg n2]
        have i2 := go_rows t [] (h ++ wcut [] a) [] [] false (fun r => rfl) (by simp)
        rw [List.append_nil] at i2
        rw [← i2, e, List.append_assoc]
    · rw [if_neg c1, if_neg c1]
      by_cases c2 : c = 32
      · rw [if_pos c2, List.append_assoc]
        refine go_rows t (a ++ [c]) h _ [] w (fun r => ?_) ?_
        · rw [List.append_assoc]
          show wcut [] (a ++ c :: r) = _
          rw [ha]
          by_cases c3 : v = []
          · subst c3; rw [wcut_b (.inl c2)]; simp
          · rw [wcut_w c3 (.inl c2), if_neg c3]; simp
        · rw [hw]
          by_cases c3 : v = []
          · subst c3; simp
          · simp [c3]
      · rw [if_neg c2]
        refine go_rows t (a ++ [c]) h f (v ++ [c]) true (fun r => ?_) (by simp)
        rw [List.append_assoc]
        show wcut [] (a ++ c :: r) = _
        rw [ha, wcut_s (by omega)]
theorem go_parts (l : List Nat) : go [] false [] l = parts l := go_rows l [] [] [] [] false (fun r => rfl) (by simp)
/-- bounds of the parts -/
theorem paras_length : ∀ (rs : List (List Nat)) (h : List (List Nat)), (paras h rs).length ≤ rs.length + 1
  | [], h => by simp only [paras]; split <;> simp
  | r :: rs, h => by
    simp only [paras]
    have h1 := paras_length rs []
    have h2 := paras_length rs (h ++ wcut [] r)
    simp only [List.length_cons]
    split
    · simp only [List.length_cons]; omega
    · omega
theorem paras_all {Pw : List Nat → Prop} : ∀ (rs : List (List Nat)) (h : List (List Nat)), (∀ x ∈ h, Pw x) → (∀ r ∈ rs, ∀ x ∈ wcut [] r, Pw x) → ∀ p ∈ paras h rs, ∀ x ∈ p, Pw x
  | [], h, hh, hr, p, hp, x, hx => by
    simp only [paras] at hp
    split at hp
    · cases hp
    · rw [List.mem_singleton.mp hp] at hx; exact hh x hx
  | r :: rs, h, hh, hr, p, hp, x, hx => by
    simp only [paras] at hp
    split at hp
    · rcases List.mem_cons.mp hp with e | hp
      · rw [e] at hx; exact hh x hx
      · exact paras_all rs [] (fun _ z => by cases z) (fun q hq => hr q (List.mem_cons_of_mem _ hq)) p hp x hx
    · refine paras_all rs _ (fun y hy => ?_) (fun q hq => hr q (List.mem_cons_of_mem _ hq)) p hp x hx
      rcases List.mem_append.mp hy with z | z
      · exact hh y z
      · exact hr r List.mem_cons_self y z
theorem paras_ne : ∀ (rs : List (List Nat)) (h : List (List Nat)), [] ∉ paras h rs
  | [], h => by
    simp only [paras]
    split
    · simp
    · rename_i n; intro z; exact n (List.mem_singleton.mp z).symm
  | r :: rs, h => by
    simp only [paras]
    split
    · rename_i n
      intro z
      rcases List.mem_cons.mp z with e | z
      · exact n.2 e.symm
      · exact paras_ne rs [] z
    · exact paras_ne rs _
/-- how many words there are in all -/
def many (ps : List (List (List Nat))) : Nat := (ps.map List.length).sum
theorem paras_many : ∀ (rs : List (List Nat)) (h : List (List Nat)), many (paras h rs) ≤ h.length + (rs.map fun r => r.length + 1).sum
  | [], h => by
    simp only [paras]
    split <;> simp [many]
  | r :: rs, h => by
    simp only [paras]
    have h1 := paras_many rs []
    have h2 := paras_many rs (h ++ wcut [] r)
    have h3 := wcut_length r []
    simp only [List.map_cons, List.sum_cons, List.length_append, List.length_nil] at h1 h2 ⊢
    split
    · simp only [many, List.map_cons, List.sum_cons] at h1 ⊢; omega
    · omega
/-- lists of lists of texts, in the heap -/
def LL (H : Hp) (as : List Addr) (ps : List (List (List Nat))) : Prop :=
  as.length = ps.length ∧ ∀ (i : Nat) (a : Addr), as[i]? = some a → ∃ ws, ps[i]? = some ws ∧ H a = some (.lst (vts ws))
abbrev vas (as : List Addr) : List V := as.map V.ref
theorem LL.nil {H : Hp} : LL H [] [] := ⟨rfl, fun i a h => by simp at h⟩
theorem LL.same {H H' : Hp} {as : List Addr} {ps : List (List (List Nat))} (h : LL H as ps) (s : Same H H') : LL H' as ps :=
  ⟨h.1, fun i a e => let ⟨ws, e1, e2⟩ := h.2 i a e; ⟨ws, e1, s _ _ e2⟩⟩
theorem LL.keep {H H' : Hp} {as : List Addr} {ps : List (List (List Nat))} (h : LL H as ps) (s : ∀ a ∈ as, ∀ o, H a = some o → H' a = some o) : LL H' as ps :=
  ⟨h.1, fun i a e => let ⟨ws, e1, e2⟩ := h.2 i a e; ⟨ws, e1, s a (List.mem_of_getElem? e) _ e2⟩⟩
theorem LL.snoc {H : Hp} {as : List Addr} {ps : List (List (List Nat))} {a : Addr} {ws : List (List Nat)} (h : LL H as ps) (e : H a = some (.lst (vts ws))) : LL H (as ++ [a]) (ps ++ [ws]) := by
  refine ⟨by simp [h.1], fun i b hb => ?_⟩
  by_cases hi : i < as.length
  · rw [List.getElem?_append_left hi] at hb
    obtain ⟨w2, e1, e2⟩ := h.2 i b hb
    exact ⟨w2, by rw [List.getElem?_append_left (by rw [← h.1]; exact hi)]; exact e1, e2⟩
  · rw [List.getElem?_append_right (by omega)] at hb
    have hi0 : i - as.length = 0 := by
      have := (List.getElem?_eq_some_iff.mp hb).1
      simp at this; omega
    rw [hi0] at hb
    have eb : a = b := by simpa using hb
    subst eb
    refine ⟨ws, ?_, e⟩
    rw [List.getElem?_append_right (by rw [← h.1]; omega), ← h.1, hi0]; rfl
theorem LL.get {H : Hp} {as : List Addr} {ps : List (List (List Nat))} (h : LL H as ps) {i : Nat} {ws : List (List Nat)} (e : ps[i]? = some ws) : ∃ a, as[i]? = some a ∧ H a = some (.lst (vts ws)) := by
  have hi : i < as.length := by rw [h.1]; exact (List.getElem?_eq_some_iff.mp e).1
  obtain ⟨w2, e1, e2⟩ := h.2 i as[i] (List.getElem?_eq_getElem hi)
  rw [e] at e1
  cases e1
  exact ⟨_, List.getElem?_eq_getElem hi, e2⟩
theorem LL.lt {H : Hp} {as : List Addr} {ps : List (List (List Nat))} (h : LL H as ps) {p : Addr} (n : H p = none) : p ∉ as := fun hp => by
  obtain ⟨i, hi, e⟩ := List.mem_iff_getElem.mp hp
  obtain ⟨ws, _, e2⟩ := h.2 i p (by rw [← e]; exact List.getElem?_eq_getElem hi)
  rw [n] at e2; cases e2
end Tw
namespace Tw
open PySem PySem.Spec PyProof.Rows L2
theorem go_nl : ∀ (t : List Nat) (h : List (List Nat)) (w : Bool) (v : List Nat), go h w v (t ++ [10]) = go h w v t
  | [], h, w, v => by
    show (if (10 : Nat) = 10 then (if v = [] ∧ w = false ∧ h ≠ [] then h :: go [] false [] [] else go (h ++ (if v = [] then [] else [v])) false [] []) else _) = go h w v []
    rw [if_pos rfl]
    by_cases e : v = [] ∧ w = false ∧ h ≠ []
    · rw [if_pos e]
      obtain ⟨rfl, _, e3⟩ := e
      simp [e3, go]
    · rw [if_neg e]
      simp [go]
  | c :: t, h, w, v => by
    simp only [List.cons_append, go]
    rw [go_nl t, go_nl t, go_nl t, go_nl t]
theorem lit_row : PySem.Str.ofString "row" = tx [114, 111, 119] := by decide +kernel
theorem lit_word : PySem.Str.ofString "word" = tx [119, 111, 114, 100] := by decide +kernel
def cnt (rs : List (List Nat)) : Nat := (rs.map fun r => r.length + 1).sum
theorem cnt_app (a b : List (List Nat)) : cnt (a ++ b) = cnt a + cnt b := by simp [cnt]
theorem cnt_total : ∀ rs : List (List Nat), cnt rs = total rs + rs.length
  | [] => rfl
  | r :: rs => by
    have h := cnt_total rs
    simp only [cnt, total, List.map_cons, List.sum_cons, List.length_cons] at h ⊢
    omega
theorem vas_app (as : List Addr) (a : Addr) : vas (as ++ [a]) = vas as ++ [.ref a] := List.map_append
theorem vts_app2 (a b : List (List Nat)) : vts (a ++ b) = vts a ++ vts b := List.map_append
theorem parts_length (l : List Nat) : (parts l).length ≤ l.length + 2 := by
  have h1 := paras_length (rows [] l) []
  have h2 := rows_length l []
  unfold parts
  omega
theorem wcut_nil_iff {r : List Nat} : decide (vts (wcut [] r) = ([] : List V)) = decide (wcut [] r = []) := by
  by_cases e : wcut [] r = []
  · rw [e]; rfl
  · rw [decide_eq_false e, decide_eq_false (fun z => e (List.map_eq_nil_iff.mp z))]
theorem nil_iff {h : List (List Nat)} : decide (vts h = ([] : List V)) = decide (h = []) := by
  by_cases e : h = []
  · rw [e]; rfl
  · rw [decide_eq_false e, decide_eq_false (fun z => e (List.map_eq_nil_iff.mp z))]
end Tw
namespace Tw
open PySem PySem.Spec PyProof.Rows L2
theorem plain_words {l r : List Nat} (h : plainTx l) (hr : r ∈ rows [] l) : ∀ x ∈ wcut [] r, plainTx x := fun x hx c hc => by
  rcases wcut_mem r [] hx hc with z | z
  · cases z
  · rcases rows_mem l [] hr z.1 with y | y
    · cases y
    · exact h c y.1
theorem parts_plain {l : List Nat} (h : plainTx l) : ∀ p ∈ parts l, ∀ x ∈ p, plainTx x :=
  paras_all (Pw := plainTx) (rows [] l) [] (fun _ z => nomatch z) fun _ hr x hx => plain_words h hr x hx
end Tw
namespace Tw
open PySem PySem.Spec PyProof.Rows L2
theorem eq_vt {a b : List Nat} {x : Str} (e : x = tx b) : decide (vt a = V.str x) = decide (a = b) := by
  rw [e, dec_vt]
theorem eq_sg {a b : Nat} {x : Str} (e : x = tx [b]) : decide (vt [a] = V.str x) = decide (a = b) := by
  rw [eq_vt e]
  simp
def wd (w : Bool) : List Nat := if w = true then [119, 111, 114, 100] else []
def rd (r : Bool) : List Nat := if r = true then [114, 111, 119] else []
theorem ne_rd {r : Bool} : (!decide (vt (rd r) = V.str (PySem.Str.ofString "row"))) = !decide (r = true) := by
  rw [ne_vt lit_row]
  cases r <;> decide
theorem ne_wd {w : Bool} : (!decide (vt (wd w) = V.str (PySem.Str.ofString "word"))) = !decide (w = true) := by
  rw [ne_vt lit_word]
  cases w <;> decide
theorem LL.last {H : Hp} {as : List Addr} {C : List (List (List Nat))} {h h2 : List (List Nat)} (L : LL H as (C ++ [h])) (nd : as.Nodup) :
    ∃ as0 a, as = as0 ++ [a] ∧ H a = some (.lst (vts h)) ∧ LL (upd H a (.lst (vts h2))) as (C ++ [h2]) := by
  have hl : as.length = C.length + 1 := by rw [L.1]; simp
  have hlt : C.length < as.length := by omega
  obtain ⟨ws, e1, e2⟩ := L.2 C.length as[C.length] (List.getElem?_eq_getElem hlt)
  have e3 : (C ++ [h])[C.length]? = some h := by simp
  rw [e3] at e1
  cases e1
  have ea : as = as.take C.length ++ [as[C.length]] := by
    have := List.take_append_drop C.length as
    rw [List.drop_eq_getElem_cons hlt, List.drop_of_length_le (by omega)] at this
    exact this.symm
  refine ⟨as.take C.length, as[C.length], ea, e2, by rw [L.1]; simp, fun i a ha => ?_⟩
  by_cases hi : i = C.length
  · subst hi
    rw [List.getElem?_eq_getElem hlt] at ha
    cases ha
    exact ⟨h2, by simp, upd_same⟩
  · obtain ⟨ws, f1, f2⟩ := L.2 i a ha
    have hi2 : i < as.length := (List.getElem?_eq_some_iff.mp ha).1
    have ne : a ≠ as[C.length] := fun z => by
      have h1 : as[i] = as[C.length] := by
        have := (List.getElem?_eq_some_iff.mp ha).2
        rw [this, z]
      exact hi ((List.getElem_inj nd).mp h1)
    refine ⟨ws, ?_, by rw [upd_ne ne]; exact f2⟩
    rw [List.getElem?_append_left (by omega)] at f1 ⊢
    exact f1
structure PH (H H' : Hp) (o la : Addr) (as : List Addr) (C : List (List (List Nat))) (h : List (List Nat)) (held : List Nat) (w : Bool) : Prop where
  sm : Same H H'
  eo : H' o = some (.lst (vas as))
  ll : LL H' as (if h ≠ [] ∨ held ≠ [] then C ++ [h] else C)
  el : H' la = some (.lst [vt (wd w), vt (rd (decide (h ≠ [] ∨ held ≠ [])))])
  ha : ∀ a ∈ as, H a = none ∧ a ≠ o ∧ a ≠ la
  nd : as.Nodup
  hw : held ≠ [] → w = true
theorem two_ne {c : Nat} : ((!decide (vt [c] = V.str (PySem.Str.ofString " "))) && (!decide (vt [c] = V.str (PySem.Str.ofString "\n")))) = !decide (c = 32 ∨ c = 10) := by
  rw [ne_sg lit_sp, ne_sg lit_nl]
  by_cases h1 : c = 32 <;> by_cases h2 : c = 10 <;> simp [h1, h2]
end Tw
namespace Tw
open PySem PySem.Spec PyProof.Rows L2
def topS (i : Nat) : Stmt := PySem.Challenge.pw_textwrapper_k02_paragraphs_cut.main.body.getD i (.Pass ⟨0, 0, 0, 0⟩)
abbrev st_words_of : Stmt := topS 1
abbrev N_words_of : List Str := ["text", "found", "word", "sign"]
theorem sc_words_of : FnScope N_words_of ["text"] (defScope st_words_of) := ⟨rfl, rfl, rfl, by decide +kernel, rfl, by decide +kernel, by decide +kernel⟩
abbrev st_paragraphs_of : Stmt := topS 2
abbrev N_paragraphs_of : List Str := ["text", "found", "held", "row", "words"]
theorem sc_paragraphs_of : FnScope N_paragraphs_of ["text"] (defScope st_paragraphs_of) := ⟨rfl, rfl, rfl, by decide +kernel, rfl, by decide +kernel, by decide +kernel⟩
abbrev st__law_cell_at : Stmt := topS 4
abbrev N__law_cell_at : List Str := ["_law_script", "_law_k"]
theorem sc__law_cell_at : FnScope N__law_cell_at ["_law_script", "_law_k"] (defScope st__law_cell_at) := ⟨rfl, rfl, rfl, by decide +kernel, rfl, by decide +kernel, by decide +kernel⟩
abbrev st__law_sign_by : Stmt := topS 5
abbrev N__law_sign_by : List Str := ["_law_cell", "_law_some"]
theorem sc__law_sign_by : FnScope N__law_sign_by ["_law_cell"] (defScope st__law_sign_by) := ⟨rfl, rfl, rfl, by decide +kernel, rfl, by decide +kernel, by decide +kernel⟩
abbrev st__law_texts : Stmt := topS 6
abbrev N__law_texts : List Str := ["_law_found", "_law_due", "_law_k"]
theorem sc__law_texts : FnScope N__law_texts ["_law_found", "_law_due"] (defScope st__law_texts) := ⟨rfl, rfl, rfl, by decide +kernel, rfl, by decide +kernel, by decide +kernel⟩
abbrev st__law_text_by : Stmt := topS 7
abbrev N__law_text_by : List Str := ["_law_cells", "_law_signs", "_law_cell", "_law_size", "_law_k"]
theorem sc__law_text_by : FnScope N__law_text_by ["_law_cells"] (defScope st__law_text_by) := ⟨rfl, rfl, rfl, by decide +kernel, rfl, by decide +kernel, by decide +kernel⟩
abbrev st__law_parts : Stmt := topS 8
abbrev N__law_parts : List Str := ["_law_signs", "_law_parts_here", "_law_held", "_law_last", "_law_sign"]
theorem sc__law_parts : FnScope N__law_parts ["_law_signs"] (defScope st__law_parts) := ⟨rfl, rfl, rfl, by decide +kernel, rfl, by decide +kernel, by decide +kernel⟩
abbrev st_law : Stmt := topS 9
abbrev N_law : List Str := ["_law_script", "_law_signs", "_law_due", "_law_found", "_law_k"]
theorem sc_law : FnScope N_law ["_law_script"] (defScope st_law) := ⟨rfl, rfl, rfl, by decide +kernel, rfl, by decide +kernel, by decide +kernel⟩
section
variable {P : Program} {w : World} {K : PySem.W.Frag} {mg : Str → Option Value} {base : Heap}
def sp_words_of : Sp := fun vs H Q _ => ∃ l : List Nat, vs = [vt l] ∧ l.length ≤ 1000000 ∧
  ∀ H' p, Same H H' → H p = none → H' p = some (.lst (vts (wcut [] l))) → Q (.ref p) H'
theorem ok_words_of (A : At K mg "words_of" ["text"] st_words_of) (T : Bts mg) : Ok P w K mg base CX0 1 "words_of" ["text"] sp_words_of := by
  refine A.ok sc_words_of (fun vs H Q E h => ?_) (fun f cdv A outer s H vs Q E hr h => ?_)
  · obtain ⟨l, rfl, _⟩ := h; rfl
  · obtain ⟨l, rfl, hl, q⟩ := h
    refine ⟨_, (pss_cons (ps_set (i := 1) sc_words_of.nd rfl (Or.inl rfl) (pe_lst pa_nil))
      (pss_cons (ps_set (i := 2) sc_words_of.nd rfl (Or.inl rfl) pe_str)
      (pss_cons (ps_for PassesOwn.never rfl (pi_str (pe_op op_add_str (pv 0) pe_str)) (pg_name (i := 3) sc_words_of.nd rfl (Or.inl rfl))
      (pss_one (ps_if (PW.pt (pw_and (pt_cmpR op_ne (pv 3) pe_str (nomark _)) (pw_and1 (pt_cmpR op_ne (pv 3) pe_str (nomark _))))) (pss_one (ps_set (i := 2) sc_words_of.nd rfl (Or.inl rfl) (pe_op op_add_str (pv 2) (pv 3)))) (pss_one (ps_if (pt_cmpR op_ne (pv 2) pe_str (nomark _)) (pss_cons (ps_expr (pe_bm PySem.F.plainAttrs_list PySem.F.slot_list_append PySem.F.type_list_append mt_append (pv 1) (pa_cons (pv 2) pa_nil)))
      (pss_one (ps_set (i := 2) sc_words_of.nd rfl (Or.inl rfl) pe_str))) pss_nil)))))
      (pss_one (ps_ret (pv 1)))))), ?_⟩
    refine ⟨Nat.zero_le _, fun o no => ?_⟩
    refine ⟨_, rfl, _, _, rfl, rfl, ?_, tx (l ++ [32]), ?_, ?_⟩
    · rw [lit_sp, tx_len, tx_len]; exact sz (by simp; omega)
    · rw [lit_sp, tx_app]
    refine for_txt (l := l ++ [32]) (fun d r σ H3 => ∃ ws h y, σ = [some (vt l), some (.ref o), some (vt h), y] ∧ Same H H3 ∧
      H3 o = some (.lst (vts ws)) ∧ ws.length + r.length ≤ l.length + 2 ∧ h.length + r.length ≤ l.length + 1 ∧ ws ++ wcut h r = wcut [] l ∧ (r = [] → h = [])) ?_ ?_ ?_
    · refine ⟨[], [], none, ?_, (Same.refl H).new no, upd_same, by simp, by simp, by rw [wcut_blank]; rfl, fun _ => rfl⟩
      rw [lit_nil]; rfl
    · rintro d c r σ H3 e ⟨ws, h, y, rfl, sm, eo, e1, e2, ew, ez⟩
      have o' : H o = none := no
      simp only [List.length_cons] at e1 e2
      -- sign != " " and sign != "\n"
      refine ⟨_, rfl, rfl, _, rfl, tsn (c := c = 32) (ne_sg lit_sp) (fun n1 => ?_) (fun n1 => ?_)⟩
      · refine ⟨_, rfl, rfl, _, rfl, tsn (c := c = 10) (ne_sg lit_nl) (fun n2 => ?_) (fun n2 => ?_)⟩
        · refine ⟨_, rfl, _, rfl, _, _, rfl, rfl, ?_, ws, h ++ [c], some (vt [c]), ?_, sm, eo, by omega, by simp; omega, ?_, fun z => ?_⟩
          · rw [tx_len, tx_len]; exact sz (by simp; omega)
          · rw [tx_app]; rfl
          · rw [← ew, wcut_s (by omega)]
          · subst z; exact absurd (last_eq e).symm n1
        · refine ⟨_, rfl, rfl, _, rfl, tsn (c := h = []) (ne_vt lit_nil) (fun n3 => ?_) (fun n3 => ?_)⟩
          · refine ⟨_, rfl, .inl ⟨rfl, _, .inl (.inl eo)⟩, _, rfl, o, _, _, rfl, rfl, eo, ?_, ?_⟩
            · rw [List.length_map]; exact szl (by omega)
            · refine ⟨ws ++ [h], [], some (vt [c]), ?_, sm.put no, ?_, by simp; omega, by simp; omega, ?_, fun _ => rfl⟩
              · rw [lit_nil]; rfl
              · rw [upd_same, vts_app]
              · rw [← ew, wcut_w n3 (by omega)]; simp
          · subst n3
            refine ⟨ws, [], some (vt [c]), rfl, sm, eo, by omega, by simp; omega, ?_, fun _ => rfl⟩
            rw [← ew, wcut_b (by omega)]
      · refine ⟨_, rfl, rfl, _, rfl, tsn (c := h = []) (ne_vt lit_nil) (fun n3 => ?_) (fun n3 => ?_)⟩
        · refine ⟨_, rfl, .inl ⟨rfl, _, .inl (.inl eo)⟩, _, rfl, o, _, _, rfl, rfl, eo, ?_, ?_⟩
          · rw [List.length_map]; exact szl (by omega)
          · refine ⟨ws ++ [h], [], some (vt [c]), ?_, sm.put no, ?_, by simp; omega, by simp; omega, ?_, fun _ => rfl⟩
            · rw [lit_nil]; rfl
            · rw [upd_same, vts_app]
            · rw [← ew, wcut_w n3 (by omega)]; simp
        · subst n3
          refine ⟨ws, [], some (vt [c]), rfl, sm, eo, by omega, by simp; omega, ?_, fun _ => rfl⟩
          rw [← ew, wcut_b (by omega)]
    · rintro σ H3 ⟨ws, h, y, rfl, sm, eo, e1, e2, ew, ez⟩
      rw [ez rfl] at ew
      rw [show wcut [] [] = [] from rfl, List.append_nil] at ew
      exact ⟨_, rfl, q H3 o sm no (by rw [eo, ew])⟩

def sp_paragraphs_of : Sp := fun vs H Q _ => ∃ l : List Nat, vs = [vt l] ∧ l.length ≤ 400000 ∧ plainTx l ∧
  ∀ H' p as, Same H H' → H p = none → H' p = some (.lst (vas as)) → LL H' as (parts l) → (∀ a ∈ as, H a = none) → Q (.ref p) H'
theorem ok_paragraphs_of (A : At K mg "paragraphs_of" ["text"] st_paragraphs_of) (T : Bts mg) (G_words_of : Ok P w K mg base CX0 1 "words_of" ["text"] sp_words_of) :
    Ok P w K mg base CX0 2 "paragraphs_of" ["text"] sp_paragraphs_of := by
  refine A.ok sc_paragraphs_of (fun vs H Q E h => ?_) (fun f cdv A outer s H vs Q E hr h => ?_)
  · obtain ⟨l, rfl, _⟩ := h; rfl
  · obtain ⟨l, rfl, hl, hpl, q⟩ := h
    have rl := rows_length l []
    have rt := rows_total l []
    have rc := cnt_total (rows [] l)
    have pl := parts_length l
    simp only [List.length_nil] at rt
    -- wherever the text's paragraphs are whole
    refine ⟨_, (pss_cons (ps_set (i := 1) sc_paragraphs_of.nd rfl (Or.inl rfl) (pe_lst pa_nil))
      (pss_cons (ps_set (i := 2) sc_paragraphs_of.nd rfl (Or.inl rfl) (pe_lst pa_nil))
      (pss_cons (ps_for PassesOwn.never rfl (pi_list (pe_split (pv 0) pe_str)) (pg_name (i := 3) sc_paragraphs_of.nd rfl (Or.inl rfl))
      (pss_cons (ps_set (i := 4) sc_paragraphs_of.nd rfl (Or.inl rfl) (pe_cd G_words_of (hr.mono (by decide)) pass0 (pa_cons (pv 3) pa_nil)))
      (C8.pss_cut (ps_if (PW.pt (pw_and (pt_cmpR (op_eqL hr) (pv 4) (pe_lst pa_nil) (nomark _)) (pw_and1 (pt_cmpR (op_neL hr) (pv 2) (pe_lst pa_nil) (nomark _))))) (pss_cons (ps_expr (pe_bm PySem.F.plainAttrs_list PySem.F.slot_list_append PySem.F.type_list_append mt_append (pv 1) (pa_cons (pv 2) pa_nil)))
      (pss_one (ps_set (i := 2) sc_paragraphs_of.nd rfl (Or.inl rfl) (pe_lst pa_nil)))) pss_nil)
      (pss_one (ps_set (i := 2) sc_paragraphs_of.nd rfl (Or.inl rfl) (pe_op op_cat (pv 2) (pv 4)))))))
      (C8.pss_cut (ps_if (pt_cmpR (op_neL hr) (pv 2) (pe_lst pa_nil) (nomark _)) (pss_one (ps_expr (pe_bm PySem.F.plainAttrs_list PySem.F.slot_list_append PySem.F.type_list_append mt_append (pv 1) (pa_cons (pv 2) pa_nil)))) pss_nil)
      (pss_one (ps_ret (pv 1))))))), ?_⟩
    refine ⟨Nat.zero_le _, fun o no => ?_⟩
    refine ⟨Nat.zero_le _, fun q0 nq => ?_⟩
    have oq : q0 ≠ o := fun e => by rw [e, upd_same] at nq; cases nq
    have s0 : Same H (upd (upd H o (.lst [])) q0 (.lst [])) := ((Same.refl H).new no).new nq
    refine ⟨_, rfl, ⟨_, rfl⟩, tx l, tx [10], rfl, by rw [lit_nl], by decide, sz (by rw [tx_len]; omega), fun c nc => ?_⟩
    have s1 := s0.new (o := HO.lst ((Txt.split (tx l) (tx [10])).map V.str)) nc
    have nq0 : H q0 = none := ((Same.refl H).new (o := HO.lst []) no).free nq
    have nc0 : H c = none := s0.free nc
    have co : c ≠ o := fun e => by
      rw [e, upd_ne (Ne.symm oq), upd_same] at nc; cases nc
    have cq : c ≠ q0 := fun e => by rw [e, upd_same] at nc; cases nc
    have ec : (upd (upd (upd H o (.lst [])) q0 (.lst [])) c (.lst ((Txt.split (tx l) (tx [10])).map V.str))) c = some (.lst (vts (rows [] l))) := by
      rw [upd_same, split_tx, List.map_map]; rfl
    have eo : (upd (upd (upd H o (.lst [])) q0 (.lst [])) c (.lst ((Txt.split (tx l) (tx [10])).map V.str))) o = some (.lst (vas [])) := by
      rw [upd_ne (Ne.symm co), upd_ne (Ne.symm oq), upd_same]; rfl
    have eq : (upd (upd (upd H o (.lst [])) q0 (.lst [])) c (.lst ((Txt.split (tx l) (tx [10])).map V.str))) q0 = some (.lst (vts [])) := by
      rw [upd_ne (Ne.symm cq), upd_same]; rfl
    generalize (upd (upd (upd H o (.lst [])) q0 (.lst [])) c (.lst ((Txt.split (tx l) (tx [10])).map V.str))) = H1 at s1 ec eo eq ⊢
    refine ⟨c, rfl, ⟨_, .of ec⟩, ?_⟩
    refine for_lst (f := vt) (l := rows [] l) (fun d r σ H3 => ∃ as ps h qa y z, σ = [some (vt l), some (.ref o), some (.ref qa), y, z] ∧ Same H H3 ∧
      H3 c = some (.lst (vts (rows [] l))) ∧ H3 o = some (.lst (vas as)) ∧ LL H3 as ps ∧ (∀ a ∈ as, H a = none ∧ a ≠ o) ∧ H3 qa = some (.lst (vts h)) ∧ qa ≠ o ∧ H qa = none ∧
      h.length ≤ cnt d ∧ (∀ w ∈ h, plainTx w) ∧ ps ++ paras h r = parts l) ?_ ?_ ?_ ?_
    · exact ⟨[], [], [], q0, none, none, rfl, s1, ec, eo, LL.nil, (fun a z => nomatch z), eq, oq, nq0, Nat.zero_le _, (fun a z => nomatch z), rfl⟩
    · rintro d r σ H3 ⟨as, ps, h, qa, y, z, rfl, sm, ec, _⟩; exact .of ec
    · rintro d c1 b σ H3 e ⟨as, ps, h, qa, y, z, rfl, sm, ec, eo, hL, ha, eq, oq, nq, hh, hw, ep⟩
      have cb : cnt (rows [] l) = cnt d + (c1.length + 1) + cnt b := by
        rw [e, cnt_app, Nat.add_assoc]; rfl
      have pb : ps.length ≤ (parts l).length := by rw [← ep, List.length_append]; omega
      have wl := wcut_length c1 []
      -- words = words_of(row)
      refine ⟨_, rfl, c1, rfl, by omega, fun H4 x s4 n4 e4 => ?_⟩
      have s04 : Same H H4 := sm.trans s4
      have nx : H x = none := sm.free n4
      have xo : x ≠ o := fun z => by rw [z, eo] at n4; cases n4
      have xq : x ≠ qa := fun z => by rw [z, eq] at n4; cases n4
      have xc : x ≠ c := fun z => by rw [z, ec] at n4; cases n4
      refine ⟨fun σ H' => ∃ as ps h qa, σ = [some (vt l), some (.ref o), some (.ref qa), some (vt c1), some (.ref x)] ∧ Same H H' ∧
        H' c = some (.lst (vts (rows [] l))) ∧ H' o = some (.lst (vas as)) ∧ LL H' as ps ∧ (∀ a ∈ as, H a = none ∧ a ≠ o) ∧ H' qa = some (.lst (vts h)) ∧ qa ≠ o ∧ H qa = none ∧
        H' x = some (.lst (vts (wcut [] c1))) ∧ h.length ≤ cnt d ∧ (∀ w ∈ h, plainTx w) ∧ ps ++ paras (h ++ wcut [] c1) b = parts l, ?_, ?_⟩
      · -- if words == [] and held != []
        have ep2 : ps ++ (if wcut [] c1 = [] ∧ h ≠ [] then h :: paras [] b else paras (h ++ wcut [] c1) b) = parts l := ep
        refine ⟨_, rfl, Nat.zero_le _, fun e1 ne1 => ?_⟩
        have s05 := s04.new (o := HO.lst []) ne1
        refine ⟨x, e1, _, [], rfl, rfl, .of (kept e4 ne1), .of upd_same, flat_vts (plain_words hpl (e ▸ List.mem_append_right _ List.mem_cons_self)), rfl, _, rfl, tst (c := wcut [] c1 = []) wcut_nil_iff (fun w1 => ?_) (fun w1 => ?_)⟩
        · refine ⟨_, rfl, Nat.zero_le _, fun e2 ne2 => ?_⟩
          have s06 := s05.new (o := HO.lst []) ne2
          have k : ∀ {a o'}, H3 a = some o' → (upd (upd H4 e1 (.lst [])) e2 (.lst [])) a = some o' := fun z => kept (kept (s4 _ _ z) ne1) ne2
          have k4 : ∀ {a o'}, H4 a = some o' → (upd (upd H4 e1 (.lst [])) e2 (.lst [])) a = some o' := fun z => kept (kept z ne1) ne2
          refine ⟨qa, e2, _, [], rfl, rfl, .of (k eq), .of upd_same, flat_vts hw, rfl, _, rfl, ?_⟩
          generalize (upd (upd H4 e1 (.lst [])) e2 (.lst [])) = H6 at s06 k k4 ⊢
          refine tsn (c := h = []) (by rw [nil_iff]) (fun w2 => ?_) (fun w2 => ?_)
          · -- found.append(held), held = []
            refine ⟨_, rfl, .inl ⟨rfl, _, .of (k eo)⟩, _, rfl, o, _, _, rfl, rfl, k eo, ?_, ?_⟩
            · rw [List.length_map, hL.1]; exact szl (by omega)
            · have ko : ∀ {a o'}, a ≠ o → H3 a = some o' → (upd H6 o (.lst (vas as ++ [V.ref qa]))) a = some o' := fun n z => by rw [upd_ne n]; exact k z
              refine ⟨Nat.zero_le _, fun q2 nq2 => ?_⟩
              have nq2' : H6 q2 = none ∧ q2 ≠ o := by
                by_cases z : q2 = o
                · rw [z, upd_same] at nq2; cases nq2
                · rw [upd_ne z] at nq2; exact ⟨nq2, z⟩
              have hq2 : H q2 = none := s06.free nq2'.1
              refine ⟨as ++ [qa], ps ++ [h], [], q2, rfl, (s06.put no).new nq2, ?_, ?_, ?_, ?_, ?_, nq2'.2, hq2, ?_, Nat.zero_le _, (fun a z => nomatch z), ?_⟩
              · exact kept (ko co ec) nq2
              · rw [vas_app]; exact kept upd_same nq2
              · refine LL.snoc (hL.keep fun a z o' e' => kept (ko (ha a z).2 e') nq2) (kept (ko oq eq) nq2)
              · intro a z
                rcases List.mem_append.mp z with z | z
                · exact ha a z
                · rw [List.mem_singleton.mp z]; exact ⟨nq, oq⟩
              · rw [upd_same]; rfl
              · refine kept ?_ nq2
                rw [upd_ne xo]; exact k4 e4
              · rw [← ep2, if_pos ⟨w1, w2⟩, w1, List.append_assoc]; rfl
          · refine ⟨as, ps, h, qa, rfl, s06, k ec, k eo, hL.keep fun a z o' e' => k e', ha, k eq, oq, nq, k4 e4, hh, hw, ?_⟩
            rw [← ep2, if_neg (fun z => z.2 w2)]
        · have k : ∀ {a o'}, H4 a = some o' → (upd H4 e1 (.lst [])) a = some o' := fun z => kept z ne1
          refine ⟨as, ps, h, qa, rfl, s05, k (s4 _ _ ec), k (s4 _ _ eo), hL.keep fun a z o' e' => k (s4 _ _ e'), ha, k (s4 _ _ eq), oq, nq, k e4, hh, hw, ?_⟩
          rw [← ep2, if_neg (fun z => w1 z.1)]
      · rintro σ H6 ⟨as, ps, h, qa, rfl, s6, ec, eo, hL, ha, eq, oq, nq, ex, hh, hw, ep⟩
        -- held = held + words
        refine ⟨_, rfl, _, rfl, qa, x, _, _, rfl, rfl, eq, ex, ?_, fun q3 nq3 => ?_⟩
        · rw [List.length_map, List.length_map]; exact sz (by omega)
        · have k : ∀ {a o'}, H6 a = some o' → (upd H6 q3 (.lst (vts h ++ vts (wcut [] c1)))) a = some o' := fun z => kept z nq3
          refine ⟨as, ps, h ++ wcut [] c1, q3, some (vt c1), some (.ref x), rfl, s6.new nq3, k ec, k eo, hL.keep fun a z o' e' => k e', ha, ?_, ?_, s6.free nq3, ?_, ?_, ep⟩
          · rw [upd_same, vts_app2]
          · intro z; rw [z, eo] at nq3; cases nq3
          · rw [List.length_append, cnt_app]
            have : cnt [c1] = c1.length + 1 := rfl
            omega
          · intro w hw'
            rcases List.mem_append.mp hw' with z | z
            · exact hw w z
            · exact plain_words hpl (e ▸ List.mem_append_right _ List.mem_cons_self) w z
    · rintro σ H3 ⟨as, ps, h, qa, y, z, rfl, sm, ec, eo, hL, ha, eq, oq, nq, hh, hw, ep⟩
      have pb : ps.length ≤ (parts l).length := by rw [← ep, List.length_append]; omega
      refine ⟨fun σ H' => ∃ as y z u, σ = [some (vt l), some (.ref o), u, y, z] ∧ Same H H' ∧ H' o = some (.lst (vas as)) ∧ LL H' as (parts l) ∧ (∀ a ∈ as, H a = none), ?_, ?_⟩
      · refine ⟨_, rfl, Nat.zero_le _, fun e1 ne1 => ?_⟩
        have k : ∀ {a o'}, H3 a = some o' → (upd H3 e1 (.lst [])) a = some o' := fun z => kept z ne1
        refine ⟨qa, e1, _, [], rfl, rfl, .of (k eq), .of upd_same, flat_vts hw, rfl, _, rfl, tsn (c := h = []) (by rw [nil_iff]) (fun w2 => ?_) (fun w2 => ?_)⟩
        · refine ⟨_, rfl, .inl ⟨rfl, _, .of (k eo)⟩, _, rfl, o, _, _, rfl, rfl, k eo, ?_, ?_⟩
          · rw [List.length_map, hL.1]; exact szl (by omega)
          · refine ⟨as ++ [qa], y, z, _, rfl, (sm.new ne1).put no, ?_, ?_, ?_⟩
            · rw [vas_app]; exact upd_same
            · have e2 : ps ++ [h] = parts l := by rw [← ep]; simp [paras, w2]
              rw [← e2]
              have ko : ∀ {a o'}, a ≠ o → H3 a = some o' → (upd (upd H3 e1 (.lst [])) o (.lst (vas as ++ [V.ref qa]))) a = some o' := fun n z => by rw [upd_ne n]; exact k z
              exact LL.snoc (hL.keep fun a z o' e' => ko (ha a z).2 e') (ko oq eq)
            · intro a z
              rcases List.mem_append.mp z with z | z
              · exact (ha a z).1
              · rw [List.mem_singleton.mp z]; exact nq
        · refine ⟨as, y, z, _, rfl, sm.new ne1, k eo, ?_, fun a z => (ha a z).1⟩
          have e2 : ps = parts l := by rw [← ep, w2]; simp [paras]
          rw [← e2]
          exact hL.keep fun a z o' e' => k e'
      · rintro σ H4 ⟨as, y, z, u, rfl, s4, eo, hL, ha⟩
        exact ⟨_, rfl, q H4 o as s4 no eo hL ha⟩

def cell (ns : List Int) (k : Nat) : Int := ns.getD k 0
def sp__law_cell_at (K : PySem.W.Frag) : Sp := fun vs H Q _ => ∃ (a : Addr) (ns : List Int) (k : Nat), vs = [.ref a, .int k] ∧ SqL K H a (vis ns) ∧ Q (.int (cell ns k)) H
theorem ok__law_cell_at (A : At K mg "_law_cell_at" ["_law_script", "_law_k"] st__law_cell_at) (T : Bts mg) : Ok P w K mg base CX0 1 "_law_cell_at" ["_law_script", "_law_k"] (sp__law_cell_at K) := by
  refine A.ok sc__law_cell_at (fun vs H Q E h => ?_) (fun f cdv A outer s H vs Q E hr h => ?_)
  · obtain ⟨a, ns, k, rfl, _⟩ := h; rfl
  · obtain ⟨a, ns, k, rfl, hS, q⟩ := h
    refine ⟨_, (pss_cons (ps_if (pt_cmpR op_lt (pv 1) (pe_callB call_len_seq (by rfl) T.m_len PySem.boot_len (pa_cons (pv 0) pa_nil)) (nomark _)) (pss_one (ps_ret (pe_ix ix_list (pv 0) (pv 1) (fun _ _ => rfl)))) pss_nil)
      (pss_one (ps_ret pe_int))), ?_⟩
    refine ⟨_, rfl, _, rfl, a, _, rfl, .inl hS, _, _, rfl, rfl, _, rfl, tst (c := k < ns.length) ?_ (fun n => ?_) (fun n => ?_)⟩
    · rw [List.length_map]
      by_cases e : k < ns.length
      · rw [decide_eq_true e, decide_eq_true (by omega)]
      · rw [decide_eq_false e, decide_eq_false (by omega)]
    · refine ⟨_, rfl, _, rfl, a, _, _, _, rfl, rfl, hS, atI_nat (flat_get (List.getElem?_eq_getElem n)), ?_⟩
      have e : cell ns k = ns[k] := by
        unfold cell
        rw [List.getD_eq_getElem?_getD, List.getElem?_eq_getElem n]; rfl
      rw [e] at q; exact q
    · have e : cell ns k = 0 := by
        unfold cell
        rw [List.getD_eq_getElem?_getD, List.getElem?_eq_none (by omega)]; rfl
      rw [e] at q
      exact q

def signs : List Nat := [33, 34, 35, 36, 38, 39, 40, 41, 42, 43, 44, 45, 46, 47, 48, 49, 50, 51, 52, 53, 54, 55, 56, 57, 58, 59, 60, 61, 62, 63, 64, 65, 66, 67, 68, 69, 70, 71, 72, 73, 74, 75, 76, 77, 78, 79, 80, 81, 82, 83, 84, 85, 86, 87, 88, 89, 90, 91, 92, 93, 94, 95, 96]
def signs2 : List Nat := [97, 98, 99, 100, 101, 102, 103, 104, 105, 106, 107, 108, 109, 110, 111, 112, 113, 114, 115, 116, 117, 118, 119, 120, 121, 122, 123, 124, 125, 126]
def sign (n : Int) : Nat := (signs ++ signs2).getD (n % 93).toNat 33
theorem lit_signs : PySem.Str.ofString "!\"#$&'()*+,-./0123456789:;<=>?@ABCDEFGHIJKLMNOPQRSTUVWXYZ[\\]^_`" = tx signs := by decide +kernel
theorem lit_signs2 : PySem.Str.ofString "abcdefghijklmnopqrstuvwxyz{|}~" = tx signs2 := by decide +kernel
theorem sign_in (n : Int) : 33 ≤ sign n ∧ sign n ≤ 126 := by
  have h : ∀ k : Nat, k < 93 → 33 ≤ (signs ++ signs2).getD k 33 ∧ (signs ++ signs2).getD k 33 ≤ 126 := by decide +kernel
  exact h _ (by omega)
def sp__law_sign_by : Sp := fun vs H Q _ => ∃ n : Int, vs = [.int n] ∧ Q (vt [sign n]) H
theorem ok__law_sign_by (A : At K mg "_law_sign_by" ["_law_cell"] st__law_sign_by) (T : Bts mg) : Ok P w K mg base CX0 1 "_law_sign_by" ["_law_cell"] sp__law_sign_by := by
  refine A.ok sc__law_sign_by (fun vs H Q E h => ?_) (fun f cdv A outer s H vs Q E hr h => ?_)
  · obtain ⟨n, rfl, _⟩ := h; rfl
  · obtain ⟨n, rfl, q⟩ := h
    refine ⟨_, (pss_cons (ps_set (i := 1) sc__law_sign_by.nd rfl (Or.inl rfl) pe_str)
      (pss_cons (ps_set (i := 1) sc__law_sign_by.nd rfl (Or.inl rfl) (pe_op op_add_str (pv 1) pe_str))
      (pss_one (ps_ret (pe_ix ix_str (pv 1) (pe_op op_mod (pv 0) pe_int) (fun _ _ => rfl)))))), ?_⟩
    refine ⟨_, rfl, _, _, rfl, rfl, ?_, ?_⟩
    · rw [lit_signs, lit_signs2]; exact sz (by decide)
    · refine ⟨_, rfl, _, rfl, _, _, rfl, rfl, (show (0 : Int) < 93 by decide), tx (signs ++ signs2), n % 93, sign n, ?_, rfl, ?_, ?_, ?_⟩
      · rw [lit_signs, lit_signs2, tx_app]
      · rw [tx_len]; exact sz (by decide)
      · rw [tx_list, show n % 93 = ((n % 93).toNat : Nat) by omega]
        refine atI_nat ?_
        unfold sign
        rw [List.getD_eq_getElem?_getD]
        have h : (n % 93).toNat < (signs ++ signs2).length := by
          have : (signs ++ signs2).length = 93 := rfl
          omega
        rw [List.getElem?_eq_getElem h]; rfl
      · exact q

def sp__law_texts (K : PySem.W.Frag) : Sp := fun vs H Q _ => ∃ (a b : Addr) (ws : List (List Nat)), vs = [.ref a, .ref b] ∧ H a = some (.lst (vts ws)) ∧ SqL K H b (vts ws) ∧ ws.length ≤ 1000000 ∧ Q (.bl true) H
theorem ok__law_texts (A : At K mg "_law_texts" ["_law_found", "_law_due"] st__law_texts) (T : Bts mg) : Ok P w K mg base CX0 1 "_law_texts" ["_law_found", "_law_due"] (sp__law_texts K) := by
  refine A.ok sc__law_texts (fun vs H Q E h => ?_) (fun f cdv A outer s H vs Q E hr h => ?_)
  · obtain ⟨a, b, ws, rfl, _⟩ := h; rfl
  · obtain ⟨a, b, ws, rfl, ha, hb, hl, q⟩ := h
    refine ⟨_, (pss_cons (ps_if (PW.pt (pw_or (pt_not (pt_val (pe_callB call_isi (by rfl) T.m_isinstance (by decide +kernel) (pa_cons (pv 0) (pa_cons (pe_bltn (v := .ty "list") (u := .type "list") (by rfl) T.m_list (by decide +kernel) rfl) pa_nil))))) (pw_or1 (pt_cmpR op_ne (pe_callB call_len_seq (by rfl) T.m_len PySem.boot_len (pa_cons (pv 0) pa_nil)) (pe_callB call_len_seq (by rfl) T.m_len PySem.boot_len (pa_cons (pv 1) pa_nil)) (nomark _))))) (pss_one (ps_ret pe_bl)) pss_nil)
      (pss_cons (ps_for PassesOwn.never rfl (pi_range1 (by rfl) T.m_range (pa_cons (pe_callB call_len_seq (by rfl) T.m_len PySem.boot_len (pa_cons (pv 1) pa_nil)) pa_nil)) (pg_name (i := 2) sc__law_texts.nd rfl (Or.inl rfl))
      (pss_one (ps_if (PW.pt (pw_or (pt_not (pt_val (pe_callB call_isi (by rfl) T.m_isinstance (by decide +kernel) (pa_cons (pe_ix ix_list (pv 0) (pv 2) (fun _ _ => rfl)) (pa_cons (pe_bltn (v := .ty "str") (u := .type "str") (by rfl) T.m_str (by decide +kernel) rfl) pa_nil))))) (pw_or1 (pt_cmpR op_ne (pe_ix ix_list (pv 0) (pv 2) (fun _ _ => rfl)) (pe_ix ix_list (pv 1) (pv 2) (fun _ _ => rfl)) (nomark _))))) (pss_one (ps_ret pe_bl)) pss_nil)))
      (pss_one (ps_ret pe_bl)))), ?_⟩
    refine ⟨_, rfl, .ref a, .ty "list", _, _, true, rfl, .ty "list", .base (.lst ha), kit_ty (by decide +kernel), ?_⟩
    refine ⟨true, rfl, iteF ?_⟩
    refine ⟨_, rfl, a, _, rfl, .inl (.of ha), _, rfl, b, _, rfl, .inl hb, rfl, _, rfl, tsn (c := True) (by simp) (fun n => absurd trivial n) (fun _ => ?_)⟩
    refine ⟨_, rfl, b, _, rfl, .inl hb, ((vts ws).length : Nat), rfl, by omega, by rw [List.length_map]; omega, ?_⟩
    rw [Int.toNat_natCast]
    refine for_range (n := (vts ws).length) (fun i σ H3 => H3 = H ∧ ∃ y, σ = [some (.ref a), some (.ref b), y]) ⟨rfl, none, rfl⟩ ?_ ?_
    · rintro i σ H3 hi ⟨rfl, y, rfl⟩
      have hi' : i < ws.length := by rw [List.length_map] at hi; exact hi
      have g : (vts ws)[i]? = some (vt ws[i]) := flat_get (List.getElem?_eq_getElem hi')
      have e0 : (0 + (i : Int)) = (i : Int) := by omega
      refine ⟨_, rfl, _, rfl, a, _, _, _, rfl, rfl, .of ha, at_of e0 g, _, .ty "str", _, _, true, rfl, .ty "str", .base (.str _), kit_ty (by decide +kernel), true, rfl, iteF ?_⟩
      refine ⟨_, rfl, _, rfl, a, _, _, _, rfl, rfl, .of ha, at_of e0 g, _, rfl, _, rfl, b, _, _, _, rfl, rfl, hb, at_of e0 g, rfl, _, rfl, tsn (c := True) (by simp) (fun n => absurd trivial n) (fun _ => ?_)⟩
      exact ⟨rfl, _, rfl⟩
    · rintro σ H3 ⟨rfl, y, rfl⟩
      exact q

def sp__law_text_by (K : PySem.W.Frag) : Sp := fun vs H Q _ => ∃ (a : Addr) (ns : List Int), vs = [.ref a] ∧ SqL K H a (vis ns) ∧ ns.length ≤ 63 ∧
  ∀ (l : List Nat) H', Same H H' → l.length ≤ 40 * ns.length → plainTx l → Q (vt l) H'
theorem ok__law_text_by (A : At K mg "_law_text_by" ["_law_cells"] st__law_text_by) (T : Bts mg) (G__law_sign_by : Ok P w K mg base CX0 1 "_law_sign_by" ["_law_cell"] sp__law_sign_by) :
    Ok P w K mg base CX0 2 "_law_text_by" ["_law_cells"] (sp__law_text_by K) := by
  refine A.ok sc__law_text_by (fun vs H Q E h => ?_) (fun f cdv A outer s H vs Q E hr h => ?_)
  · obtain ⟨a, ns, rfl, _⟩ := h; rfl
  · obtain ⟨a, ns, rfl, hS, hl, q⟩ := h
    refine ⟨_, (pss_cons (ps_set (i := 1) sc__law_text_by.nd rfl (Or.inl rfl) pe_str)
      (pss_cons (ps_for PassesOwn.never rfl (pi_list (pv 0)) (pg_name (i := 2) sc__law_text_by.nd rfl (Or.inr rfl))
      (pss_one (ps_if (pt_cmpR op_eq (pe_op op_mod (pv 2) pe_int) pe_int (nomark _)) (pss_one (ps_set (i := 1) sc__law_text_by.nd rfl (Or.inl rfl) (pe_op op_add_str (pv 1) (pe_op op_mulS pe_str (pe_op op_add pe_int (pe_op op_mod (pe_op op_fdiv (pv 2) pe_int) pe_int)))))) (pss_one (ps_if (pt_cmpR op_eq (pe_op op_mod (pv 2) pe_int) pe_int (nomark _)) (pss_one (ps_set (i := 1) sc__law_text_by.nd rfl (Or.inl rfl) (pe_op op_add_str (pv 1) (pe_op op_mulS pe_str (pe_op op_add pe_int (pe_op op_mod (pe_op op_fdiv (pv 2) pe_int) pe_int)))))) (pss_cons (ps_set (i := 3) sc__law_text_by.nd rfl (Or.inl rfl) (pe_op op_add (pe_op op_add pe_int (pe_op op_mod (pe_op op_fdiv (pv 2) pe_int) pe_int)) (pe_op op_mul (pe_op op_fdiv (pe_op op_mod (pe_op op_fdiv (pv 2) pe_int) pe_int) pe_int) (pe_op op_mod (pe_op op_fdiv (pv 2) pe_int) pe_int))))
      (pss_one (ps_set (i := 1) sc__law_text_by.nd rfl (Or.inl rfl) (pe_op op_add_str (pv 1) (pe_join pe_str (pe_lc (own := [("_law_k", 4)]) (g := gName 4) (tt := tYes) rfl sc__law_text_by.nd (pi_range1 (by rfl) T.m_range (pa_cons (pv 3) pa_nil)) (blkOk_by (own := [("_law_k", 4)]) (N := N__law_text_by) (sc := defScope st__law_text_by) (by decide +kernel)) (fun _ _ _ _ _ => pg_name (i := 4) sc__law_text_by.nd rfl (Or.inl rfl)) (fun _ _ _ _ _ => pts_nil) (fun _ _ _ _ _ => (pe_cd G__law_sign_by (hr.mono (by decide)) pass0 (pa_cons (pe_op op_add (pe_op op_fdiv (pv 2) pe_int) (pe_op op_mul (pv 4) (pe_op op_mod (pe_op op_fdiv (pv 2) pe_int) pe_int))) pa_nil))))))))))))))
      (pss_one (ps_ret (pv 1))))), ?_⟩
    refine ⟨_, rfl, a, rfl, ⟨_, hS⟩, ?_⟩
    refine for_lst (f := V.int) (l := ns) (fun d r σ H3 => Same H H3 ∧ ∃ l y z u, σ = [some (.ref a), some (vt l), y, z, u] ∧ l.length ≤ 40 * d.length ∧ plainTx l) ?_ ?_ ?_ ?_
    · refine ⟨Same.refl H, [], none, none, none, ?_, by simp, fun c h => by cases h⟩
      rw [lit_nil]; rfl
    · rintro d r σ H3 ⟨sm, _⟩; exact sm.seq hS
    · rintro d c r σ H3 e ⟨sm, l, y, z, u, rfl, h1, h2⟩
      have hd : d.length < ns.length := by rw [e]; simp
      have add : ∀ (x : List Nat), plainTx x → plainTx (l ++ x) := fun x hx c hc => by
        rcases List.mem_append.mp hc with z | z
        · exact h2 c z
        · exact hx c z
      have rep : ∀ (x n : Nat), x < 1114112 → plainTx (List.replicate n [x]).flatten := fun x n hx c hc => by
        obtain ⟨y, hy, hc⟩ := List.mem_flatten.mp hc
        rw [(List.mem_replicate.mp hy).2] at hc
        rw [List.mem_singleton.mp hc]; exact hx
      have repl : ∀ (x n : Nat), (List.replicate n [x]).flatten.length = n := fun x n => by
        rw [List.length_flatten, List.map_replicate, List.sum_replicate_nat]; simp
      refine ⟨_, rfl, _, _, rfl, rfl, (show (0 : Int) < 3 by decide), rfl, _, rfl, tst (c := c % 3 = 0) dec_vi (fun n1 => ?_) (fun n1 => ?_)⟩
      · refine ⟨_, rfl, _, rfl, _, _, rfl, rfl, ⟨by decide, by decide⟩, _, _, rfl, rfl, (show (0 : Int) < 3 by decide), _, _, rfl, rfl, [32], 1 + c / 3 % 3, by rw [lit_sp], rfl, by omega, by omega, sz (by simp; omega), _, _, rfl, rfl, ?_, ?_⟩
        · rw [tx_len, tx_len, repl]; exact sz (by omega)
        · refine ⟨sm, l ++ (List.replicate (1 + c / 3 % 3).toNat [32]).flatten, _, _, _, by rw [tx_app]; rfl, ?_, add _ (rep _ _ (by decide))⟩
          rw [List.length_append, repl, List.length_append]; simp; omega
      · refine ⟨_, rfl, _, _, rfl, rfl, (show (0 : Int) < 3 by decide), rfl, _, rfl, tst (c := c % 3 = 1) dec_vi (fun n2 => ?_) (fun n2 => ?_)⟩
        · refine ⟨_, rfl, _, rfl, _, _, rfl, rfl, ⟨by decide, by decide⟩, _, _, rfl, rfl, (show (0 : Int) < 3 by decide), _, _, rfl, rfl, [10], 1 + c / 3 % 3, by rw [lit_nl], rfl, by omega, by omega, sz (by simp; omega), _, _, rfl, rfl, ?_, ?_⟩
          · rw [tx_len, tx_len, repl]; exact sz (by omega)
          · refine ⟨sm, l ++ (List.replicate (1 + c / 3 % 3).toNat [10]).flatten, _, _, _, by rw [tx_app]; rfl, ?_, add _ (rep _ _ (by decide))⟩
            rw [List.length_append, repl, List.length_append]; simp; omega
        · -- a word
          refine ⟨_, rfl, _, _, rfl, rfl, ⟨by decide, by decide⟩, _, _, rfl, rfl, (show (0 : Int) < 5 by decide), _, _, rfl, rfl, ?_⟩
          refine ⟨_, rfl, _, _, rfl, rfl, ⟨by decide, by decide⟩, _, _, rfl, rfl, (show (0 : Int) < 8 by decide), _, _, rfl, rfl, ⟨by decide, by decide⟩, ?_⟩
          refine ⟨_, rfl, _, _, rfl, rfl, ⟨by decide, by decide⟩, _, _, rfl, rfl, (show (0 : Int) < 36 by decide), _, _, rfl, rfl, .inl ⟨by omega, by omega⟩, _, _, rfl, rfl, ?_⟩
          have hz : 1 ≤ 1 + c / 3 % 5 + c / 45 % 8 / 7 * (c / 360 % 36) ∧ 1 + c / 3 % 5 + c / 45 % 8 / 7 * (c / 360 % 36) ≤ 40 := by
            have h7 : c / 45 % 8 / 7 = 0 ∨ c / 45 % 8 / 7 = 1 := by omega
            rcases h7 with h7 | h7 <;> rw [h7] <;> omega
          obtain ⟨n, hn⟩ : ∃ n : Int, 1 + c / 3 % 5 + c / 45 % 8 / 7 * (c / 360 % 36) = n := ⟨_, rfl⟩
          rw [hn] at hz
          refine ⟨_, rfl, ⟨_, rfl⟩, _, rfl, n, by rw [← hn], by omega, by omega, fun D hD => ?_⟩
          refine lc_range (lo := 0) (n := n.toNat) (fun i H' => Same H3 H' ∧ ∃ ws, H' D = some (.lst (vts ws)) ∧ ws.length = i ∧ total ws = i ∧ ∀ x ∈ ws, plainTx x) ?_ ?_ ?_
          · exact ⟨(Same.refl H3).new hD, [], upd_same, rfl, rfl, fun _ z => nomatch z⟩
          · rintro i H' hi ⟨s5, ws, eD, e1, e2, e3⟩
            refine ⟨rfl, ?_⟩
            refine ⟨_, rfl, _, _, rfl, rfl, ⟨by decide, by decide⟩, _, rfl, _, rfl, _, _, rfl, rfl, ⟨by decide, by decide⟩, _, _, rfl, rfl, (show (0 : Int) < 7 by decide), _, _, rfl, rfl, .inr ⟨by omega, by omega⟩, _, _, rfl, rfl, _, rfl, ?_⟩
            have hs := sign_in (c / 15 + (0 + (i : Int)) * (c / 11 % 7))
            generalize sign (c / 15 + (0 + (i : Int)) * (c / 11 % 7)) = x at hs ⊢
            refine ⟨_, eD, by rw [List.length_map]; exact szl (by omega), s5.put hD, ws ++ [[x]], by rw [upd_same, vts_app], by simp [e1], ?_, ?_⟩
            · simp [total] at e2 ⊢; omega
            · intro y hy
              rcases List.mem_append.mp hy with z | z
              · exact e3 y z
              · rw [List.mem_singleton.mp z]
                intro c hc
                rw [List.mem_singleton.mp hc]; omega
          · rintro H' ⟨s5, ws, eD, e1, e2, e3⟩
            refine ⟨_, D, ws.map tx, rfl, rfl, .inl (.of (by rw [eD, List.map_map]; rfl)), ?_, ?_⟩
            · rw [lit_nil, tx_len, List.map_map]
              have : (ws.map ((fun x : Str => x.length) ∘ tx)).sum = total ws := by
                unfold total
                congr 1
                first | done | exact List.map_congr_left fun x _ => tx_len x
              simp only [List.length_nil, Nat.mul_zero] at this ⊢
              omega
            · rw [lit_nil, join_tx]
              have jl := jn_len [] ws
              simp only [List.length_nil, Nat.mul_zero] at jl
              refine ⟨_, _, rfl, rfl, ?_, ?_⟩
              · rw [tx_len, tx_len]; exact sz (by omega)
              · refine ⟨sm.trans s5, l ++ jn [] ws, _, _, _, by rw [tx_app]; rfl, ?_, add _ ?_⟩
                · simp only [List.length_append, List.length_cons, List.length_nil]; omega
                · intro c hc
                  obtain ⟨x, hx, hc⟩ := jn_mem hc
                  exact e3 x hx c hc
    · rintro σ H3 ⟨sm, l, y, z, u, rfl, h1, h2⟩
      exact ⟨_, rfl, q l H3 sm h1 h2⟩

def sp__law_parts : Sp := fun vs H Q _ => ∃ l : List Nat, vs = [vt l] ∧ l.length ≤ 400000 ∧
  ∀ H' p as, Same H H' → H p = none → H' p = some (.lst (vas as)) → LL H' as (parts l) → (∀ a ∈ as, H a = none) → Q (.ref p) H'
theorem ok__law_parts (A : At K mg "_law_parts" ["_law_signs"] st__law_parts) (T : Bts mg) :
    Ok P w K mg base CX0 1 "_law_parts" ["_law_signs"] sp__law_parts := by
  refine A.ok sc__law_parts (fun vs H Q E h => ?_) (fun f cdv A outer s H vs Q E hr h => ?_)
  · obtain ⟨l, rfl, _⟩ := h; rfl
  · obtain ⟨l, rfl, hl, q⟩ := h
    refine ⟨_, (pss_cons (ps_set (i := 1) sc__law_parts.nd rfl (Or.inl rfl) (pe_lst pa_nil))
      (pss_cons (ps_set (i := 2) sc__law_parts.nd rfl (Or.inl rfl) pe_str)
      (pss_cons (ps_set (i := 3) sc__law_parts.nd rfl (Or.inl rfl) (pe_lst (pa_cons pe_str (pa_cons pe_str pa_nil))))
      (pss_cons (ps_for PassesOwn.never rfl (pi_str (pe_op op_add_str (pv 0) pe_str)) (pg_name (i := 4) sc__law_parts.nd rfl (Or.inl rfl))
      (C8.pss_cut (ps_if (PW.pt (pw_and (pt_cmpR op_ne (pv 4) pe_str (nomark _)) (pw_and1 (pt_cmpR op_ne (pv 4) pe_str (nomark _))))) (C8.pss_cut (ps_if (PW.pt (pw_and (pt_cmpR op_eq (pv 2) pe_str (nomark _)) (pw_and1 (pt_cmpR op_ne (pe_ix ix_list (pv 3) pe_int (fun _ _ => rfl)) pe_str (nomark _))))) (pss_one (ps_expr (pe_bm PySem.F.plainAttrs_list PySem.F.slot_list_append PySem.F.type_list_append mt_append (pv 1) (pa_cons (pe_lst pa_nil) pa_nil)))) pss_nil)
      (pss_cons (ps_set (i := 2) sc__law_parts.nd rfl (Or.inl rfl) (pe_op op_add_str (pv 2) (pv 4)))
      (pss_cons (ps_asg pe_str (pg_sub (pv 3) pe_int set_list))
      (pss_one (ps_asg pe_str (pg_sub (pv 3) pe_int set_list)))))) (pss_one (ps_if (pt_cmpR op_ne (pv 2) pe_str (nomark _)) (pss_cons (ps_expr (pe_bm PySem.F.plainAttrs_list PySem.F.slot_list_append PySem.F.type_list_append mt_append (pe_ix ix_list (pv 1) (pe_un un_neg pe_int) (fun _ _ => rfl)) (pa_cons (pv 2) pa_nil)))
      (pss_one (ps_set (i := 2) sc__law_parts.nd rfl (Or.inl rfl) pe_str))) pss_nil)))
      (pss_one (ps_if (pt_cmpR op_eq (pv 4) pe_str (nomark _)) (C8.pss_cut (ps_if (pt_cmpR op_ne (pe_ix ix_list (pv 3) pe_int (fun _ _ => rfl)) pe_str (nomark _)) (pss_one (ps_asg pe_str (pg_sub (pv 3) pe_int set_list))) pss_nil)
      (pss_one (ps_asg pe_str (pg_sub (pv 3) pe_int set_list)))) pss_nil))))
      (pss_one (ps_ret (pv 1))))))), ?_⟩
    refine ⟨Nat.zero_le _, fun o no => ?_⟩
    refine ⟨sz (by simp), fun la nla => ?_⟩
    have lo : la ≠ o := fun e => by rw [e, upd_same] at nla; cases nla
    have s0 := (Same.refl H).new (o := HO.lst []) no
    have nl : H la = none := s0.free nla
    have s1 := s0.new (o := HO.lst [V.str (PySem.Str.ofString ""), V.str (PySem.Str.ofString "")]) nla
    refine ⟨_, rfl, _, _, rfl, rfl, ?_, tx (l ++ [10]), ?_, ?_⟩
    · rw [lit_nl, tx_len, tx_len]; exact sz (by simp; omega)
    · rw [lit_nl, tx_app]
    refine for_txt (l := l ++ [10]) (fun d r σ H3 => ∃ C h as held w y, σ = [some (vt l), some (.ref o), some (vt held), some (.ref la), y] ∧ PH H H3 o la as C h held w ∧
      C ++ go h w held r = parts l ∧ as.length + r.length ≤ l.length + 2 ∧ held.length + r.length ≤ l.length + 2 ∧ h.length + r.length ≤ l.length + 2 ∧ (r = [] → held = [])) ?_ ?_ ?_
    · refine ⟨[], [], [], [], false, none, ?_, ⟨s1, ?_, LL.nil, ?_, (fun a z => nomatch z), List.nodup_nil, fun z => absurd rfl z⟩, ?_, by simp, by simp, by simp, fun _ => rfl⟩
      · rw [lit_nil]; rfl
      · rw [upd_ne (Ne.symm lo), upd_same]; rfl
      · rw [upd_same, lit_nil]; rfl
      · rw [go_nl]; exact go_parts l
    · rintro d c t σ H3 e ⟨C, h, as, held, w, y, rfl, p, ep, l1, l2, l3, lz⟩
      simp only [List.length_cons] at l1 l2 l3
      have nlast : t = [] → c = 10 := fun z => by subst z; exact (last_eq e).symm
      -- what follows the first if
      refine ⟨fun σ H' => ∃ C h as held w, σ = [some (vt l), some (.ref o), some (vt held), some (.ref la), some (vt [c])] ∧ PH H H' o la as C h held w ∧ (c = 10 → held = []) ∧
        C ++ (if c = 10 then (if w = false ∧ h ≠ [] then h :: go [] false [] t else go h false [] t) else go h w held t) = parts l ∧
        as.length + t.length ≤ l.length + 2 ∧ held.length + t.length ≤ l.length + 2 ∧ h.length + t.length ≤ l.length + 2, ?_, ?_⟩
      · have blank : (c = 32 ∨ c = 10) → (h2 : List (List Nat)) → h2 = h ++ (if held = [] then [] else [held]) →
            C ++ (if c = 10 then (if w = false ∧ h2 ≠ [] then h2 :: go [] false [] t else go h2 false [] t) else go h2 w [] t) = parts l := fun hc h2 e2 => by
          rw [← ep]
          congr 1
          simp only [go]
          by_cases c1 : c = 10
          · rw [if_pos c1, if_pos c1]
            by_cases v0 : held = []
            · subst v0
              have e3 : h2 = h := by rw [e2]; simp
              rw [e3]
              by_cases c2 : w = false ∧ h ≠ []
              · rw [if_pos c2, if_pos ⟨rfl, c2⟩]
              · rw [if_neg c2, if_neg (fun z => c2 z.2), if_pos rfl, List.append_nil]
            · have hw := p.hw v0
              rw [if_neg (fun z => by rw [hw] at z; exact Bool.noConfusion z.1), if_neg (fun z => v0 z.1), ← e2]
          · rw [if_neg c1, if_neg c1, if_pos (hc.resolve_right c1), ← e2]
        refine ans_and2 (ans_ne (val_var rfl) val_c rfl rfl) (ans_ne (val_var rfl) val_c rfl rfl) _ ?_
        refine tsn (c := c = 32 ∨ c = 10) two_ne (fun nb => ?_) (fun hb => ?_)
        · -- a sign of a word
          refine ⟨fun σ H' => ∃ as, σ = [some (vt l), some (.ref o), some (vt held), some (.ref la), some (vt [c])] ∧ Same H H' ∧ H' o = some (.lst (vas as)) ∧ LL H' as (C ++ [h]) ∧
            (∃ u v, H' la = some (.lst [u, v])) ∧ (∀ a ∈ as, H a = none ∧ a ≠ o ∧ a ≠ la) ∧ as.Nodup ∧ as.length + t.length ≤ l.length + 2, ?_, ?_⟩
          · refine ans_and2 (ans_eq (val_var rfl) val_c rfl rfl) (ans_ne (b := !decide (vt (rd (decide (h ≠ [] ∨ held ≠ []))) = V.str (PySem.Str.ofString "row"))) (x := vt (rd (decide (h ≠ [] ∨ held ≠ [])))) (fun Q q => ⟨_, rfl, la, _, 1, _, rfl, rfl, .of p.el, atI_nat (j := 1) rfl, q⟩) val_c rfl rfl) _ ?_
            rw [eq_vt lit_nil, ne_rd]
            by_cases hc : h ≠ [] ∨ held ≠ []
            · have e2 : (decide (held = []) && !decide (decide (h ≠ [] ∨ held ≠ []) = true)) = false := by simp [hc]
              rw [e2]
              refine iteF ⟨as, rfl, p.sm, p.eo, ?_, ⟨_, _, p.el⟩, p.ha, p.nd, by omega⟩
              have := p.ll
              rw [if_pos hc] at this
              exact this
            · have e0 : h = [] ∧ held = [] := by
                refine ⟨Decidable.byContradiction fun z => hc (.inl z), Decidable.byContradiction fun z => hc (.inr z)⟩
              have e2 : (decide (held = []) && !decide (decide (h ≠ [] ∨ held ≠ []) = true)) = true := by simp [e0]
              rw [e2]
              refine iteT ?_
              have LLC := p.ll
              rw [if_neg hc] at LLC
              refine ⟨_, rfl, .inl ⟨rfl, _, .of p.eo⟩, Nat.zero_le _, fun z nz => ?_⟩
              refine ⟨o, _, _, rfl, rfl, kept p.eo nz, ?_, ?_⟩
              · rw [List.length_map]; exact szl (by omega)
              · have zo : z ≠ o := fun x => by rw [x, p.eo] at nz; cases nz
                have zl : z ≠ la := fun x => by rw [x, p.el] at nz; cases nz
                have nH : H z = none := p.sm.free nz
                have nas : z ∉ as := LLC.lt nz
                have ko : ∀ {a o'}, a ≠ o → H3 a = some o' → (upd (upd H3 z (.lst [])) o (.lst (vas as ++ [.ref z]))) a = some o' := fun n x => by rw [upd_ne n]; exact kept x nz
                refine ⟨as ++ [z], rfl, (p.sm.new nz).put no, by rw [vas_app]; exact upd_same, ?_, ⟨_, _, ko lo p.el⟩, ?_, ?_, by simp; omega⟩
                · rw [e0.1]
                  refine LL.snoc (LLC.keep fun a x o' e' => ko (p.ha a x).2.1 e') ?_
                  rw [upd_ne zo, upd_same]; rfl
                · intro a x
                  rcases List.mem_append.mp x with x | x
                  · exact p.ha a x
                  · rw [List.mem_singleton.mp x]; exact ⟨nH, zo, zl⟩
                · rw [List.nodup_append]
                  refine ⟨p.nd, by simp, fun a x b y => ?_⟩
                  rw [List.mem_singleton.mp y]
                  intro z2; rw [z2] at x; exact nas x
          · rintro σ H4 ⟨as, rfl, s4, eo, L4, ⟨u, v, el⟩, ha, nd, l4⟩
            refine ⟨_, rfl, _, rfl, _, _, rfl, rfl, ?_, ?_⟩
            · rw [tx_len, tx_len]; exact sz (by simp; omega)
            refine ⟨_, rfl, la, _, 1, 1, rfl, rfl, el, rfl, ?_⟩
            refine ⟨_, rfl, la, _, 0, 0, rfl, rfl, upd_same, rfl, ?_⟩
            rw [upd_upd]
            have kl : ∀ {a o' x}, a ≠ la → H4 a = some o' → (upd H4 la x) a = some o' := fun n x => by rw [upd_ne n]; exact x
            refine ⟨C, h, as, held ++ [c], true, by rw [tx_app]; rfl, ⟨s4.put nl, kl (Ne.symm lo) eo, ?_, ?_, ha, nd, fun _ => rfl⟩, fun z => absurd (.inr z) nb, ?_, l4, by simp; omega, by omega⟩
            · rw [if_pos (.inr (by simp))]
              exact L4.keep fun a x o' e' => kl (ha a x).2.2 e'
            · rw [upd_same]
              have e3 : decide (h ≠ [] ∨ held ++ [c] ≠ []) = true := by simp
              rw [e3, lit_row, lit_word]; rfl
            · rw [if_neg (fun z => nb (.inr z)), ← ep]
              simp only [go]
              rw [if_neg (fun z => nb (.inr z)), if_neg (fun z => nb (.inl z))]
        · refine ⟨_, rfl, rfl, _, rfl, tsn (c := held = []) (ne_vt lit_nil) (fun v1 => ?_) (fun v0 => ?_)⟩
          · have hc : h ≠ [] ∨ held ≠ [] := .inr v1
            have L := p.ll
            rw [if_pos hc] at L
            obtain ⟨as0, a, ea, eh, L2⟩ := L.last (h2 := h ++ [held]) p.nd
            have am : a ∈ as := by rw [ea]; simp
            obtain ⟨na, ao, al⟩ := p.ha a am
            refine ⟨_, rfl, 1, rfl, o, _, _, .ref a, rfl, rfl, .of p.eo, ?_, ?_⟩
            · rw [ea, vas_app]; exact atI_last _ _
            refine ⟨.inl ⟨rfl, _, .of eh⟩, _, rfl, a, _, _, rfl, rfl, eh, ?_, ?_⟩
            · rw [List.length_map]; exact szl (by omega)
            refine ⟨C, h ++ [held], as, [], w, by rw [lit_nil]; rfl, ⟨p.sm.put na, ?_, ?_, ?_, p.ha, p.nd, fun z => absurd rfl z⟩, fun _ => rfl, ?_, by omega, by simp; omega, by simp; omega⟩
            · rw [upd_ne (Ne.symm ao)]; exact p.eo
            · rw [if_pos (.inl (by simp)), ← vts_app]; exact L2
            · rw [upd_ne (Ne.symm al), p.el]
              have e3 : decide (h ++ [held] ≠ [] ∨ ([] : List Nat) ≠ []) = decide (h ≠ [] ∨ held ≠ []) := by simp [v1]
              rw [e3]
            · refine blank hb (h ++ [held]) ?_
              rw [if_neg v1]
          · subst v0
            refine ⟨C, h, as, [], w, rfl, ⟨p.sm, p.eo, p.ll, p.el, p.ha, p.nd, p.hw⟩, fun _ => rfl, ?_, by omega, by simp; omega, by omega⟩
            refine blank hb h ?_
            simp
      · rintro σ H4 ⟨C, h, as, held, w, rfl, p, c10, ep, l1, l2, l3⟩
        -- a line end
        refine ⟨_, rfl, rfl, _, rfl, tst (c := c = 10) (eq_sg lit_nl) (fun e10 => ?_) (fun n10 => ?_)⟩
        · have h0 := c10 e10
          subst h0
          rw [if_pos e10] at ep
          refine ⟨fun σ H' => ∃ C h, σ = [some (vt l), some (.ref o), some (vt []), some (.ref la), some (vt [c])] ∧ PH H H' o la as C h [] w ∧
            C ++ go h false [] t = parts l ∧ h.length + t.length ≤ l.length + 2, ?_, ?_⟩
          · refine ⟨_, rfl, la, _, 0, _, rfl, rfl, .of p.el, atI_nat (j := 0) rfl, rfl, _, rfl, tsn (c := w = true) ne_wd (fun w0 => ?_) (fun w1 => ?_)⟩
            · have w0' : w = false := by simpa using w0
              refine ⟨_, rfl, la, _, 1, 1, rfl, rfl, p.el, rfl, ?_⟩
              have kl : ∀ {a o' x}, a ≠ la → H4 a = some o' → (upd H4 la x) a = some o' := fun n x => by rw [upd_ne n]; exact x
              have ll : LL (upd H4 la (.lst ([vt (wd w), vt (rd (decide (h ≠ [] ∨ ([] : List Nat) ≠ [])))].set 1 (V.str (PySem.Str.ofString ""))))) as (if h ≠ [] ∨ ([] : List Nat) ≠ [] then C ++ [h] else C) :=
                p.ll.keep fun a x o' e' => kl (p.ha a x).2.2 e'
              refine ⟨if h = [] then C else C ++ [h], [], rfl, ⟨p.sm.put nl, kl (Ne.symm lo) p.eo, ?_, ?_, p.ha, p.nd, p.hw⟩, ?_, by simp; omega⟩
              · rw [if_neg (by simp)]
                by_cases h0 : h = []
                · rw [if_pos h0]; rw [if_neg (by simp [h0])] at ll; exact ll
                · rw [if_neg h0]; rw [if_pos (.inl h0)] at ll; exact ll
              · rw [upd_same, lit_nil]; rfl
              · rw [← ep]
                by_cases h0 : h = []
                · rw [if_pos h0, if_neg (fun z => z.2 h0), h0]
                · rw [if_neg h0, if_pos ⟨w0', h0⟩, List.append_assoc]; rfl
            · refine ⟨C, h, rfl, p, ?_, by omega⟩
              rw [← ep, if_neg (fun z => by rw [w1] at z; exact Bool.noConfusion z.1)]
          · rintro σ H5 ⟨C, h, rfl, p, ep, l5⟩
            refine ⟨_, rfl, la, _, 0, 0, rfl, rfl, p.el, rfl, ?_⟩
            have kl : ∀ {a o' x}, a ≠ la → H5 a = some o' → (upd H5 la x) a = some o' := fun n x => by rw [upd_ne n]; exact x
            refine ⟨C, h, as, [], false, some (vt [c]), rfl, ⟨p.sm.put nl, kl (Ne.symm lo) p.eo, p.ll.keep fun a x o' e' => kl (p.ha a x).2.2 e', ?_, p.ha, p.nd, fun z => absurd rfl z⟩, ep, by omega, by simp; omega, by omega, fun _ => rfl⟩
            rw [upd_same, lit_nil]; rfl
        · rw [if_neg n10] at ep
          exact ⟨C, h, as, held, w, some (vt [c]), rfl, p, ep, by omega, by omega, by omega, fun z => absurd (nlast z) n10⟩
    · rintro σ H3 ⟨C, h, as, held, w, y, rfl, p, ep, l1, l2, l3, lz⟩
      have h0 := lz rfl
      subst h0
      refine ⟨_, rfl, q H3 o as p.sm no p.eo ?_ (fun a z => (p.ha a z).1)⟩
      have := p.ll
      rw [← ep]
      by_cases z : h = []
      · rw [if_neg (by simp [z])] at this; simpa [go, z] using this
      · rw [if_pos (.inl z)] at this; simpa [go, z] using this

def sp_law (K : PySem.W.Frag) : Sp := fun vs H Q _ => ∃ (a : Addr) (ns : List Int), vs = [.ref a] ∧ SqL K H a (vis ns) ∧ ns.length ≤ 63 ∧ ∀ H', Q (.bl true) H'
theorem body_law (T : Bts mg) (G__law_cell_at : Ok P w K mg base CX0 1 "_law_cell_at" ["_law_script", "_law_k"] (sp__law_cell_at K))
    (G__law_text_by : Ok P w K mg base CX0 2 "_law_text_by" ["_law_cells"] (sp__law_text_by K)) (G__law_parts : Ok P w K mg base CX0 1 "_law_parts" ["_law_signs"] sp__law_parts)
    (G__law_texts : Ok P w K mg base CX0 1 "_law_texts" ["_law_found", "_law_due"] (sp__law_texts K)) (G_paragraphs_of : Ok P w K mg base CX0 2 "paragraphs_of" ["text"] sp_paragraphs_of)
    (f : Addr) (cdv : Value) (A : Around) (outer : List Env) (s : Shared) (H : Hp) (vs : List V) (Q : VK) (E : XK)
    (hr : Room 2 (A.deeper (envOfC "law" (defScope st_law) s.heap.objs.size f cdv))) (h : sp_law K vs H Q E) :
    ∃ t, PSs (cxOf CX0 P w K mg base N_law "law" (defScope st_law) f cdv A outer s H E).nox (defBody st_law) t ∧ t { nx := fun _ H' => Q .non H', rt := Q } (start N_law vs) H := by
  obtain ⟨a, ns, rfl, hS, hl, q⟩ := h
  refine ⟨_, (pss_cons (ps_set (i := 1) sc_law.nd rfl (Or.inl rfl) (pe_cd G__law_text_by (hr.mono (by decide)) pass0 (pa_cons (pe_slice sl_list (pv 0) (po_some pe_int) po_none) pa_nil)))
      (C8.pss_cut (ps_if (pt_cmpR op_eq (pe_op op_mod (pe_cd G__law_cell_at (hr.mono (by decide)) pass0 (pa_cons (pv 0) (pa_cons pe_int pa_nil))) pe_int) pe_int (nomark _)) (pss_one (ps_set (i := 1) sc_law.nd rfl (Or.inl rfl) (pe_op op_mulS (pv 1) pe_int))) pss_nil)
      (pss_cons (ps_set (i := 2) sc_law.nd rfl (Or.inl rfl) (pe_cd G__law_parts (hr.mono (by decide)) pass0 (pa_cons (pv 1) pa_nil)))
      (pss_cons (ps_set (i := 3) sc_law.nd rfl (Or.inl rfl) (pe_cd G_paragraphs_of (hr.mono (by decide)) pass0 (pa_cons (pv 1) pa_nil)))
      (pss_cons (ps_if (PW.pt (pw_or (pt_not (pt_val (pe_callB call_isi (by rfl) T.m_isinstance (by decide +kernel) (pa_cons (pv 3) (pa_cons (pe_bltn (v := .ty "list") (u := .type "list") (by rfl) T.m_list (by decide +kernel) rfl) pa_nil))))) (pw_or1 (pt_cmpR op_ne (pe_callB call_len_seq (by rfl) T.m_len PySem.boot_len (pa_cons (pv 3) pa_nil)) (pe_callB call_len_seq (by rfl) T.m_len PySem.boot_len (pa_cons (pv 2) pa_nil)) (nomark _))))) (pss_one (ps_ret pe_bl)) pss_nil)
      (pss_cons (ps_for PassesOwn.never rfl (pi_range1 (by rfl) T.m_range (pa_cons (pe_callB call_len_seq (by rfl) T.m_len PySem.boot_len (pa_cons (pv 2) pa_nil)) pa_nil)) (pg_name (i := 4) sc_law.nd rfl (Or.inl rfl))
      (pss_one (ps_if (pt_not (pt_val (pe_cd G__law_texts (hr.mono (by decide)) pass0 (pa_cons (pe_ix ix_list (pv 3) (pv 4) (fun _ _ => rfl)) (pa_cons (pe_ix ix_list (pv 2) (pv 4) (fun _ _ => rfl)) pa_nil))))) (pss_one (ps_ret pe_bl)) pss_nil)))
      (pss_one (ps_ret pe_bl)))))))), ?_⟩
  refine ⟨_, rfl, 1, rfl, a, _, rfl, hS, fun p np => ?_⟩
  have s1 : Same H (upd H p (.lst (cutV (vis ns) (some 1) none))) := (Same.refl H).new np
  generalize hH1 : upd H p (.lst (cutV (vis ns) (some 1) none)) = H1 at s1 ⊢
  have ep : H1 p = some (.lst (vis (ns.drop 1))) := by rw [← hH1, upd_same]; exact congrArg some (congrArg HO.lst (cut_from V.int ns 1))
  refine ⟨p, ns.drop 1, rfl, .of ep, by simp; omega, fun l H2 s2 l1 l2 => ?_⟩
  have l1' : l.length ≤ 2520 := by simp at l1; omega
  have s02 := s1.trans s2
  have hS2 : SqL K H2 a (vis ns) := s02.seq hS
  refine ⟨fun σ H' => ∃ l, σ = [some (.ref a), some (vt l), none, none, none] ∧ Same H H' ∧ l.length ≤ 12600 ∧ plainTx l, ?_, ?_⟩
  · refine ⟨_, rfl, a, ns, 0, rfl, hS2, _, _, rfl, rfl, (show (0 : Int) < 4 by decide), rfl, _, rfl, tst (c := cell ns 0 % 4 = 1) dec_vi (fun n1 => ?_) (fun n1 => ?_)⟩
    · refine ⟨_, rfl, l, 5, rfl, rfl, by decide, by decide, sz (by simp; omega), _, rfl, s02, ?_, ?_⟩
      · rw [List.length_flatten, List.map_replicate, List.sum_replicate_nat]; simp; omega
      · intro c hc
        obtain ⟨x, hx, hc⟩ := List.mem_flatten.mp hc
        rw [(List.mem_replicate.mp hx).2] at hc
        exact l2 c hc
    · exact ⟨l, rfl, s02, by omega, l2⟩
  rintro σ H3 ⟨l, rfl, s3, l3, l4⟩
  have pl := parts_length l
  refine ⟨_, rfl, l, rfl, by omega, fun H4 o4 as4 s4 n4 e4 L4 a4 => ?_⟩
  refine ⟨_, rfl, l, rfl, by omega, l4, fun H5 o5 as5 s5 n5 e5 L5 a5 => ?_⟩
  have e4' := s5 _ _ e4
  have L4' := L4.same s5
  have le : (vas as5).length = (vas as4).length := by rw [List.length_map, List.length_map, L5.1, L4.1]
  refine ⟨_, rfl, .ref o5, .ty "list", _, _, true, rfl, .ty "list", .base (.lst e5), kit_ty (by decide +kernel), true, rfl, iteF ?_⟩
  refine ⟨_, rfl, o5, _, rfl, .inl (.of e5), _, rfl, o4, _, rfl, .inl (.of e4'), rfl, _, rfl, tsn (c := True) (by rw [le]; simp) (fun n => absurd trivial n) (fun _ => ?_)⟩
  refine ⟨_, rfl, o4, _, rfl, .inl (.of e4'), ((vas as4).length : Nat), rfl, by omega, by rw [List.length_map, L4.1]; omega, ?_⟩
  rw [Int.toNat_natCast]
  refine for_range (n := (vas as4).length) (fun i σ H' => H' = H5 ∧ ∃ y, σ = [some (.ref a), some (vt l), some (.ref o4), some (.ref o5), y]) ⟨rfl, none, rfl⟩ ?_ ?_
  · rintro i σ H' hi ⟨rfl, y, rfl⟩
    have hi4 : i < as4.length := by rw [List.length_map] at hi; exact hi
    have hi5 : i < as5.length := by rw [List.length_map, List.length_map] at le; omega
    have hip : i < (parts l).length := by rw [← L4.1]; exact hi4
    have e0 : (0 + (i : Int)) = (i : Int) := by omega
    obtain ⟨w5, g5, f5⟩ := L5.2 i _ (List.getElem?_eq_getElem hi5)
    obtain ⟨w4, g4, f4⟩ := L4'.2 i _ (List.getElem?_eq_getElem hi4)
    rw [g5] at g4
    cases g4
    have wl : w5.length ≤ 1000000 := by
      have h1 := paras_many (rows [] l) []
      have h2 : w5.length ≤ many (parts l) := by
        unfold many
        exact le_sum_mem (List.mem_map.mpr ⟨w5, List.mem_of_getElem? g5, rfl⟩)
      have h3 := cnt_total (rows [] l)
      have h4 := rows_total l []
      have h5 := rows_length l []
      unfold parts at h2
      unfold cnt at h3
      simp only [List.length_nil] at h1 h4
      omega
    refine ⟨_, rfl, _, rfl, o5, _, _, _, rfl, rfl, .of e5, at_of e0 (flat_get (List.getElem?_eq_getElem hi5)), _, rfl, _, rfl, o4, _, _, _, rfl, rfl, .of e4', at_of e0 (flat_get (List.getElem?_eq_getElem hi4)), ?_⟩
    exact ⟨_, _, w5, rfl, f5, .of f4, wl, true, rfl, iteF ⟨rfl, _, rfl⟩⟩
  · rintro σ H' ⟨rfl, y, rfl⟩
    exact q _

end
theorem all_mk {P : Program} {w : World} {K : PySem.W.Frag} {mg : Str → Option Value} {fa : Addr} (T : Bts mg)
    (A_words_of : At K mg "words_of" ["text"] st_words_of)
    (A_paragraphs_of : At K mg "paragraphs_of" ["text"] st_paragraphs_of)
    (A__law_cell_at : At K mg "_law_cell_at" ["_law_script", "_law_k"] st__law_cell_at)
    (A__law_sign_by : At K mg "_law_sign_by" ["_law_cell"] st__law_sign_by)
    (A__law_texts : At K mg "_law_texts" ["_law_found", "_law_due"] st__law_texts)
    (A__law_text_by : At K mg "_law_text_by" ["_law_cells"] st__law_text_by)
    (A__law_parts : At K mg "_law_parts" ["_law_signs"] st__law_parts)
    (A_law : LawAt K fa "law" "_law_script" st_law) :
    ∃ fd : FuncData, (∀ (s : Shared) (v : Value), BindsTo s fd ⟨[v], []⟩ [("_law_script", v)]) ∧ ∀ base : Heap, K.In base → base.Ns mainGlobals mg → FnOk P w K mg base CX0 3 fa fd ["_law_script"] (sp_law K) := by
  obtain ⟨fd, hb, F⟩ := A_law.ex
  refine ⟨fd, hb, fun base _ _ => ?_⟩
  have O_words_of := ok_words_of (P := P) (w := w) (base := base) A_words_of T
  have O_paragraphs_of := ok_paragraphs_of (P := P) (w := w) (base := base) A_paragraphs_of T O_words_of
  have O__law_cell_at := ok__law_cell_at (P := P) (w := w) (base := base) A__law_cell_at T
  have O__law_sign_by := ok__law_sign_by (P := P) (w := w) (base := base) A__law_sign_by T
  have O__law_texts := ok__law_texts (P := P) (w := w) (base := base) A__law_texts T
  have O__law_text_by := ok__law_text_by (P := P) (w := w) (base := base) A__law_text_by T O__law_sign_by
  have O__law_parts := ok__law_parts (P := P) (w := w) (base := base) A__law_parts T
  refine F.ok sc_law (fun vs H Q E h => ?_) (fun cdv A outer s H vs Q E hr h => body_law T O__law_cell_at O__law_text_by O__law_parts O__law_texts O_paragraphs_of fa cdv A outer s H vs Q E hr h)
  obtain ⟨a, ns, rfl, _⟩ := h; rfl
end Tw
open PySem PySem.W PyProof.Rows
set_option maxHeartbeats 0 in
theorem PySem.Challenge.cw_textwrapper_k02_paragraphs_cut_holds : PySem.Challenge.rw_textwrapper_k02_paragraphs_cut.Holds := by
  w_on; o_law; k_head; (case hw => w_witness2)
  k_fill
  refine L2.walk_of (l := PySem.Challenge.rw_textwrapper_k02_paragraphs_cut) (n := 63) (k := 3) (x := "_law_script") (CX := fun _ => L2.CX0) (sp := fun w => Tw.sp_law _) rfl (by decide) rfl ⟨rfl, by decide, by decide⟩ (fun w h Y => PySem.W.kIn_of Y) ?F (fun _ _ a ns hl _ hS => ⟨a, ns, rfl, hS, hl, fun _ => rfl⟩) (fun _ _ _ _ _ h => h)
  case F =>
    intro w mg fa h KX G hmg
    refine' Tw.all_mk ?T ?A_words_of ?A_paragraphs_of ?A__law_cell_at ?A__law_sign_by ?A__law_texts ?A__law_text_by ?A__law_parts ?A_law
    case T =>
      refine' Tw.bts_mk KX G ?z1 ?z2 ?z3 ?z4 ?z5 ?z6 ?z7 ?z8 ?z9 ?z10 ?z11 ?z12
      (case z1 => k_is); (case z2 => k_is); (case z3 => k_is); (case z4 => k_is); (case z5 => k_is); (case z6 => k_is); (case z7 => k_is); (case z8 => k_is); (case z9 => k_is); (case z10 => k_is); (case z11 => k_is); (case z12 => k_is)
    case A_words_of =>
      refine' Tw.at_mk KX G ?a ?l ?c ?k ?b
      (case a => k_is); (case l => k_is); (case c => k_is); (case k => k_is)
      (case b => exact fun _ _ _ _ _ _ us hl => match us, hl with | [_], _ => rfl)
    case A_paragraphs_of =>
      refine' Tw.at_mk KX G ?a ?l ?c ?k ?b
      (case a => k_is); (case l => k_is); (case c => k_is); (case k => k_is)
      (case b => exact fun _ _ _ _ _ _ us hl => match us, hl with | [_], _ => rfl)
    case A__law_cell_at =>
      refine' Tw.at_mk KX G ?a ?l ?c ?k ?b
      (case a => k_is); (case l => k_is); (case c => k_is); (case k => k_is)
      (case b => exact fun _ _ _ _ _ _ us hl => match us, hl with | [_, _], _ => rfl)
    case A__law_sign_by =>
      refine' Tw.at_mk KX G ?a ?l ?c ?k ?b
      (case a => k_is); (case l => k_is); (case c => k_is); (case k => k_is)
      (case b => exact fun _ _ _ _ _ _ us hl => match us, hl with | [_], _ => rfl)
    case A__law_texts =>
      refine' Tw.at_mk KX G ?a ?l ?c ?k ?b
      (case a => k_is); (case l => k_is); (case c => k_is); (case k => k_is)
      (case b => exact fun _ _ _ _ _ _ us hl => match us, hl with | [_, _], _ => rfl)
    case A__law_text_by =>
      refine' Tw.at_mk KX G ?a ?l ?c ?k ?b
      (case a => k_is); (case l => k_is); (case c => k_is); (case k => k_is)
      (case b => exact fun _ _ _ _ _ _ us hl => match us, hl with | [_], _ => rfl)
    case A__law_parts =>
      refine' Tw.at_mk KX G ?a ?l ?c ?k ?b
      (case a => k_is); (case l => k_is); (case c => k_is); (case k => k_is)
      (case b => exact fun _ _ _ _ _ _ us hl => match us, hl with | [_], _ => rfl)
    case A_law =>
      refine' Tw.lawat_mk KX G hmg ?a ?l ?c ?k ?b
      (case a => k_is); (case l => k_is); (case c => k_is); (case k => k_is)
      (case b => exact fun _ _ _ _ _ _ s v => .of_eq rfl)
