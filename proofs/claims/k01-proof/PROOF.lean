import PyProof.Rows.All
import Wide.All
import OpenK.AllK
import Wide.FinOn
import PyProof.StrOps2
import PyProof.Rows.RuleB_pow
import HandS.ForMost
import HandS.ForExc
import HandS.IsInst
import HandS.RevRange
import HandS.Wide
import HandS.Style
import HandS.Codes
import HandS.Flow
import HandS.ExcCtx
import HandS.HotCalls
import HandS.ExcIs
import PySem.Challenge.RW_textwrapper_k01_words_cut
set_option Elab.async false
set_option linter.all false
set_option maxRecDepth 100000
set_option maxHeartbeats 4000000
namespace Tw
open PySem PySem.Spec PyProof.Rows L2

/-! ### texts as lists of codes -/
def tx (l : List Nat) : Str := ⟨l.toArray⟩
abbrev vt (l : List Nat) : V := .str (tx l)
abbrev vts (ws : List (List Nat)) : List V := ws.map vt
abbrev vis (ns : List Int) : List V := ns.map V.int
theorem tx_inj {a b : List Nat} (h : tx a = tx b) : a = b := by
  have h2 := congrArg (fun s => s.cps.toList) h
  simpa [tx] using h2
theorem vt_inj {a b : List Nat} : vt a = vt b ↔ a = b :=
  ⟨fun h => tx_inj (V.str.inj h), fun h => by rw [h]⟩
theorem tx_app (a b : List Nat) : tx a ++ tx b = tx (a ++ b) := by
  show (⟨a.toArray ++ b.toArray⟩ : Str) = ⟨(a ++ b).toArray⟩
  simp
theorem tx_len (a : List Nat) : (tx a).length = a.length := by
  show a.toArray.size = _
  simp
theorem tx_list (a : List Nat) : (tx a).cps.toList = a := by
  show a.toArray.toList = a
  simp
theorem tx_size (a : List Nat) : (tx a).cps.size = a.length := by
  show a.toArray.size = _
  simp
theorem tx_get (a : List Nat) (i : Nat) : (tx a).cps[i]? = a[i]? := by
  show a.toArray[i]? = _
  simp
theorem tx_sign (c : Nat) : (⟨#[c]⟩ : Str) = tx [c] := rfl
theorem str_tx (s : Str) : s = tx s.cps.toList := by
  obtain ⟨l⟩ := s
  rfl
theorem vts_inj {a b : List (List Nat)} (h : vts a = vts b) : a = b :=
  (List.map_inj_right (fun x y e => vt_inj.mp e)).mp h
theorem vis_inj {a b : List Int} (h : vis a = vis b) : a = b :=
  (List.map_inj_right (fun x y e => V.int.inj e)).mp h
theorem dec_vt {a b : List Nat} : decide (vt a = vt b) = decide (a = b) := by
  by_cases h : a = b
  · rw [decide_eq_true h, decide_eq_true (vt_inj.mpr h)]
  · rw [decide_eq_false h, decide_eq_false (fun e => h (vt_inj.mp e))]
theorem dec_vi {a b : Int} : decide (V.int a = V.int b) = decide (a = b) := by
  by_cases h : a = b
  · rw [decide_eq_true h, decide_eq_true (by rw [h])]
  · rw [decide_eq_false h, decide_eq_false (fun e => h (V.int.inj e))]

/-! ### heaps -/
theorem _root_.L2.Same.new {H H1 : Hp} {p : Addr} {o : HO} (s : Same H H1) (n : H1 p = none) : Same H (upd H1 p o) := fun b x e => by
  rw [upd_ne (ne_of_none (s b x e) n)]
  exact s b x e
/-- a store to what was made behind H -/
theorem _root_.L2.Same.put {H H1 : Hp} {p : Addr} {o : HO} (s : Same H H1) (n : H p = none) : Same H (upd H1 p o) := fun b x e => by
  rw [upd_ne (ne_of_none e n)]
  exact s b x e
theorem kept {H : Hp} {p q : Addr} {x o : HO} (h : H q = some x) (n : H p = none) : upd H p o q = some x := by
  rw [upd_ne (ne_of_none h n)]
  exact h
theorem _root_.L2.Same.seqT {K : PySem.W.Frag} {H H' : Hp} {a : Addr} {xs : List V} (e : Same H H') (h : SqT K H a xs) : SqT K H' a xs := by
  rcases h with (h | ⟨o, h⟩) | h
  · exact .inl (.inl (e _ _ h))
  · exact .inl (.inr ⟨o, e _ _ h⟩)
  · exact .inr h

/-! ### the built-in names that the text does not bind -/
structure Bts (mg : Str → Option Value) : Prop where
  m_len : mg "len" = none
  m_range : mg "range" = none
  m_max : mg "max" = none
  m_sum : mg "sum" = none
  m_int : mg "int" = none
  m_bool : mg "bool" = none
  m_str : mg "str" = none
  m_list : mg "list" = none
  m_isinstance : mg "isinstance" = none
  m_sorted : mg "sorted" = none
  m_reversed : mg "reversed" = none
  m_ValueError : mg "ValueError" = none

/-! ### a def of the text -/
structure At (K : PySem.W.Frag) (mg : Str → Option Value) (x : Str) (ps : List Str) (st : Stmt) : Prop where
  ex : ∃ f fd, mg x = some (.ref f) ∧ Fun K x x st f fd ∧ Binds K fd ps []
structure Ok (P : Program) (w : World) (K : PySem.W.Frag) (mg : Str → Option Value) (base : Heap) (CX : CXT) (k : Nat) (x : Str) (ps : List Str) (sp : Sp) : Prop where
  ex : ∃ f fd, mg x = some (.ref f) ∧ PySem.W.keepIn K (.ref f) = true ∧ Binds K fd ps [] ∧ FnOk P w K mg base CX k f fd ps sp
section
variable {P : Program} {w : World} {K : PySem.W.Frag} {mg : Str → Option Value} {base : Heap}
theorem At.ok {x : Str} {ps N : List Str} {st : Stmt} {k : Nat} {sp : Sp} (A : At K mg x ps st) (S : FnScope N ps (defScope st))
    (len : ∀ vs H Q E, sp vs H Q E → vs.length = ps.length)
    (hbody : ∀ (f cdv : _) (A : Around) (outer : List Env) (s : Shared) (H : Hp) (vs : List V) (Q : VK) (E : XK),
      Room k (A.deeper (envOfC x (defScope st) s.heap.objs.size f cdv)) → sp vs H Q E →
      ∃ t, PSs (cxOf CX0 P w K mg base N x (defScope st) f cdv A outer s H E).nox (defBody st) t ∧
        t { nx := fun _ H' => Q .non H', rt := Q } (start N vs) H) :
    Ok P w K mg base CX0 (k + 1) x ps sp := by
  obtain ⟨f, fd, g, F, b⟩ := A.ex
  exact ⟨f, fd, g, F.kp, b, F.ok S len (hbody f)⟩
/-- a call of it -/
theorem pe_cd {X : Cx} {CX : CXT} {k : Nat} {x : Str} {ps : List Str} {sp : Sp} {E : XK} {e : Expr} {es : List Expr} {t : TA} {p pos : Pos}
    (G : Ok X.prog X.w X.K X.mg X.base CX k x ps sp) (hr : Room k X.A) (hx : Passes CX X E) (ha : PA X (e :: es) t)
    (hg : Gl X x := by rfl) (hdb : (x == ("__debug__" : Str)) = false := by decide)
    (he : starEach (e :: es) X.env = (false, eval e X.env) :: starEach es X.env := by rfl)
    (hpl : (backTo pos (starEach es X.env)).any (·.1) = false := by rfl) :
    PE X (.Call (.Name x p) (e :: es) [] pos) (tCall sp [] E t) := by
  obtain ⟨f, fd, g, kp, b, F⟩ := G.ex
  exact pe_call F hr hg g kp b .nil hx ha hdb he hpl
/-- .. the wish of an exception at the caller's slots -/
theorem pe_cdS {X : Cx} {CX : CXT} {k : Nat} {x : Str} {ps : List Str} {sp : Sp} {E : L2.St → XK} {e : Expr} {es : List Expr} {t : TA} {p pos : Pos}
    (G : Ok X.prog X.w X.K X.mg X.base CX k x ps sp) (hr : Room k X.A) (hx : ∀ σ, PassesAt CX X σ (E σ)) (ha : PA X (e :: es) t)
    (hg : Gl X x := by rfl) (hdb : (x == ("__debug__" : Str)) = false := by decide)
    (he : starEach (e :: es) X.env = (false, eval e X.env) :: starEach es X.env := by rfl)
    (hpl : (backTo pos (starEach es X.env)).any (·.1) = false := by rfl) :
    PE X (.Call (.Name x p) (e :: es) [] pos) (tCallS sp E t) := by
  obtain ⟨f, fd, g, kp, b, F⟩ := G.ex
  exact pe_callS F hr hg g kp b hx ha hdb he hpl
end
theorem Ok.mono {P : Program} {w : World} {K : PySem.W.Frag} {mg : Str → Option Value} {base : Heap} {CX : CXT} {j k : Nat} {x : Str} {ps : List Str} {sp : Sp}
    (G : Ok P w K mg base CX j x ps sp) (h : j ≤ k) : Ok P w K mg base CX k x ps sp := by
  obtain ⟨f, fd, g, kp, b, F⟩ := G.ex
  exact ⟨f, fd, g, kp, b, F.mono h⟩
/-! ### operators that the layer lacks -/
/-- text * int -/
theorem op_mulS {X : Cx} : OpR X (binaryOp .Mult) (fun x y H Q => ∃ (l : List Nat) (n : Int), x = vt l ∧ y = .int n ∧
    -(2 ^ 63) ≤ n ∧ n < 2 ^ 63 ∧ l.length * n.toNat ≤ sizeLine ∧ Q (vt (List.replicate n.toNat l).flatten) H) := by
  intro pins s σ H x y v u Q I rx ry h
  obtain ⟨l, n, rfl, rfl, h1, h2, hz, q⟩ := h
  obtain ⟨t, rfl⟩ := rx
  obtain ⟨t', rfl⟩ := ry
  have hsl : sizeLine = 16777216 := sizeLine_eq
  have fin : ∀ (z : Str) (tk : Nat) (t0 : Tok), z = tx (List.replicate n.toNat l).flatten → EP X pins σ Q (.str z t0) { s with toks := tk } := fun z tk t0 e => by
    subst e
    exact ⟨vt (List.replicate n.toNat l).flatten, H, I.tok tk, ⟨_, rfl⟩, q⟩
  have ffold : ∀ (m : Nat) (acc : List Nat), (List.replicate m l.toArray).foldl (· ++ ·) acc.toArray = (acc ++ (List.replicate m l).flatten).toArray := by
    intro m
    induction m with
    | zero => intro acc; simp
    | succ m ih =>
      intro acc
      rw [List.replicate_succ, List.foldl_cons, List.append_toArray, ih, List.replicate_succ, List.flatten_cons, List.append_assoc]
  refine PySem.P.mul_str ?_ (fun a b => ?_) (fun a b => ?_) ?_
  · rw [decide_eq_false (by omega), decide_eq_false (by omega)]; rfl
  · rw [tx_len]
    have hn : 1 ≤ n := by omega
    have : (l.length : Int) * n ≤ 16777216 := by
      rw [hsl] at hz
      have e : ((n.toNat : Nat) : Int) = n := Int.toNat_of_nonneg (by omega)
      have hz2 : ((l.length * n.toNat : Nat) : Int) ≤ ((16777216 : Nat) : Int) := Int.ofNat_le.mpr hz
      rw [Int.natCast_mul, e] at hz2
      omega
    intro hgt
    have : (2 ^ 63 - 1 : Int) / n < l.length := hgt
    have h3 := (Int.ediv_lt_iff_lt_mul (a := 2 ^ 63 - 1) (b := (l.length : Int)) (c := n) (by omega)).mp this
    omega
  · rw [tx_len]
    show decide _ = false
    exact decide_eq_false (Nat.not_lt.mpr hz)
  · by_cases a : n < 1
    · rw [if_pos a]
      have e0 : n.toNat = 0 := by omega
      refine ⟨by decide, ?_⟩
      exact fin _ _ _ (by rw [e0]; rfl)
    · rw [if_neg a]
      by_cases b : (n == 1 || (tx l).length == 0) = true
      · rw [if_pos b]
        have e1 : (List.replicate n.toNat l).flatten = l := by
          rcases Bool.or_eq_true_iff.mp b with b | b
          · have : n = 1 := eq_of_beq b
            subst this
            simp
          · have : l = [] := by
              have := eq_of_beq b
              rw [tx_len] at this
              exact List.length_eq_zero_iff.mp this
            subst this
            simp
        show EP X pins σ Q (.str (tx l) t) s
        exact fin (tx l) s.toks t (by rw [e1])
      · rw [if_neg b]
        have e2 : (⟨(List.replicate n.toNat (tx l).cps).foldl (· ++ ·) #[]⟩ : Str) = tx (List.replicate n.toNat l).flatten := by
          have := ffold n.toNat []
          show (⟨(List.replicate n.toNat l.toArray).foldl (· ++ ·) #[]⟩ : Str) = ⟨(List.replicate n.toNat l).flatten.toArray⟩
          rw [show (#[] : Array Nat) = ([] : List Nat).toArray from rfl, this]
          rfl
        have e3 : (List.replicate n.toNat l).flatten.length ≤ sizeLine := by
          rw [List.length_flatten, List.map_replicate, List.sum_replicate_nat, Nat.mul_comm]
          exact hz
        rw [e2]
        first
          | exact ⟨by rw [tx_len]; exact e3, fin _ _ _ rfl⟩
          | exact fin _ _ _ rfl
/-- powers of numbers of a known size -/
theorem op_powW {X : Cx} : OpR X (binaryOp .Pow) (fun x y H Q => ∃ i j : Int, x = .int i ∧ y = .int j ∧ 0 ≤ j ∧ (Builtin.Int.intBits i : Int) * j ≤ 2 ^ 27 ∧ Q (.int (i ^ j.toNat)) H) := by
  intro pins s σ H x y v u Q I rx ry h
  obtain ⟨i, j, rfl, rfl, h1, h2, q⟩ := h
  obtain ⟨t, rfl⟩ := rx
  obtain ⟨t', rfl⟩ := ry
  exact PyProof.Rows.pow_int h1 h2 ⟨.int _, H, I.tok _, ⟨_, rfl⟩, q⟩

/-! ### == of lists of ints and texts -/
def flat : V → Bool
  | .int _ => true
  | .str z => PyData.strOk z
  | _ => false
def pd : V → PyData
  | .int i => .int i
  | .str z => .str z
  | _ => .none
theorem pd_eqv : ∀ {a b : V}, flat a = true → flat b = true → PyData.eqv (pd a) (pd b) = decide (a = b) := by
  intro a b ha hb
  cases a <;> first | exact absurd ha Bool.false_ne_true | skip
  all_goals (cases b <;> first | exact absurd hb Bool.false_ne_true | skip)
  · rename_i i j
    show (i == j) = _
    rw [dec_vi, Bool.beq_eq_decide_eq]
  · simp [pd, PyData.eqv]
  · simp [pd, PyData.eqv]
  · rename_i i j
    show (i == j) = _
    rw [Bool.beq_eq_decide_eq]
    by_cases e : i = j
    · subst e; simp
    · rw [decide_eq_false e, decide_eq_false (fun z => e (V.str.inj z))]
theorem pd_eqvAll : ∀ {xs ys : List V}, xs.all flat = true → ys.all flat = true → PyData.eqvAll (xs.map pd) (ys.map pd) = decide (xs = ys) := by
  intro xs
  induction xs with
  | nil =>
    intro ys _ _
    cases ys with
    | nil => simp [PyData.eqvAll]
    | cons y r => simp [PyData.eqvAll]
  | cons x r ih =>
    intro ys hx hy
    cases ys with
    | nil => simp [PyData.eqvAll]
    | cons y q =>
      simp only [List.all_cons, Bool.and_eq_true] at hx hy
      show (PyData.eqv (pd x) (pd y) && PyData.eqvAll (r.map pd) (q.map pd)) = _
      rw [pd_eqv hx.1 hy.1, ih hx.2 hy.2]
      by_cases e1 : x = y
      · by_cases e2 : r = q
        · subst e1 e2; simp
        · simp [e2]
      · simp [e1]
theorem dpAll {K : PySem.W.Frag} {H : Hp} : ∀ {xs : List V}, xs.all flat = true → DpAll K H xs (xs.map pd) := by
  intro xs
  induction xs with
  | nil => intro _; exact .nil
  | cons x r ih =>
    intro h
    simp only [List.all_cons, Bool.and_eq_true] at h
    refine .cons ?_ (ih h.2)
    have h1 := h.1
    cases x <;> first | exact absurd h1 Bool.false_ne_true | skip
    · exact .int _
    · exact .str _
theorem pd_lay : ∀ {x : V}, flat x = true → (pd x).canLay0 = true ∧ (pd x).depth = 0 := by
  intro x h
  cases x <;> first | exact absurd h Bool.false_ne_true | skip
  · exact ⟨by simp [pd, PyData.canLay0], by simp [pd, PyData.depth]⟩
  · exact ⟨by simp only [pd, PyData.canLay0]; exact h, by simp [pd, PyData.depth]⟩
theorem pd_layAll : ∀ {xs : List V}, xs.all flat = true → PyData.canLayAll0 (xs.map pd) = true ∧ PyData.depthAll (xs.map pd) = 0 := by
  intro xs
  induction xs with
  | nil => intro _; exact ⟨by simp [PyData.canLayAll0], by simp [PyData.depthAll]⟩
  | cons x r ih =>
    intro h
    simp only [List.all_cons, Bool.and_eq_true] at h
    obtain ⟨h1, h2⟩ := pd_lay h.1
    obtain ⟨h3, h4⟩ := ih h.2
    exact ⟨by simp [PyData.canLayAll0, h1, h3], by simp [PyData.depthAll, h2, h4]⟩
theorem pd_shaped {xs : List V} (h : xs.all flat = true) : SeqAt.shaped (.list (xs.map pd)) = true := by
  obtain ⟨h1, h2⟩ := pd_layAll h
  simp [SeqAt.shaped, PyData.canLay0, PyData.depth, h1, h2]
def rEqL (K : PySem.W.Frag) : R2 := fun x y H Q => ∃ a b xs ys, x = .ref a ∧ y = .ref b ∧ SqL K H a xs ∧ SqL K H b ys ∧ xs.all flat = true ∧ ys.all flat = true ∧ Q (.bl (decide (xs = ys))) H
def rNeL (K : PySem.W.Frag) : R2 := fun x y H Q => ∃ a b xs ys, x = .ref a ∧ y = .ref b ∧ SqL K H a xs ∧ SqL K H b ys ∧ xs.all flat = true ∧ ys.all flat = true ∧ Q (.bl (!decide (xs = ys))) H
theorem op_eqL {X : Cx} {k : Nat} (hr : Room k X.A) : OpR X (compareOp .Eq) (rEqL X.K) := by
  intro pins s σ H x y v u Q I rx ry h
  obtain ⟨a, b, xs, ys, rfl, rfl, ha, hb, fa, fb, q⟩ := h
  refine op_eqD hr.units pins s σ H _ _ v u Q I rx ry ⟨_, _, .lst ha (dpAll fa), .lst hb (dpAll fb), pd_shaped fa, pd_shaped fb, ?_⟩
  show Q (.bl (PyData.eqvAll _ _)) H
  rw [pd_eqvAll fa fb]
  exact q
theorem op_neL {X : Cx} {k : Nat} (hr : Room k X.A) : OpR X (compareOp .NotEq) (rNeL X.K) := by
  intro pins s σ H x y v u Q I rx ry h
  obtain ⟨a, b, xs, ys, rfl, rfl, ha, hb, fa, fb, q⟩ := h
  refine op_neD hr.units pins s σ H _ _ v u Q I rx ry ⟨_, _, .lst ha (dpAll fa), .lst hb (dpAll fb), pd_shaped fa, pd_shaped fb, ?_⟩
  show Q (.bl (!PyData.eqvAll _ _)) H
  rw [pd_eqvAll fa fb]
  exact q
theorem flat_vis (ns : List Int) : (vis ns).all flat = true := by
  simp [flat]
end Tw
namespace Tw
open PySem PySem.Spec PyProof.Rows L2
/-! ### loops by what is done and what is to come -/
theorem split_at {α : Type} {l : List α} {i : Nat} {c : α} (h : l[i]? = some c) : l = l.take i ++ c :: l.drop (i + 1) ∧ l.drop i = c :: l.drop (i + 1) ∧ l.take (i + 1) = l.take i ++ [c] := by
  obtain ⟨hi, e⟩ := List.getElem?_eq_some_iff.mp h
  have d : l.drop i = c :: l.drop (i + 1) := by
    rw [List.drop_eq_getElem_cons hi, e]
  refine ⟨?_, d, ?_⟩
  · rw [← d, List.take_append_drop]
  · rw [List.take_add_one, h]; rfl
/-- over the signs of a text -/
theorem for_txt {l : List Nat} {g : TG} {tb : TS} {D : Ends} {σ : L2.St} {H : Hp} (Pv : List Nat → List Nat → L2.St → Hp → Prop) (h0 : Pv [] l σ H)
    (hs : ∀ a c b σ H, l = a ++ c :: b → Pv a (c :: b) σ H → g (vt [c]) σ H fun σ2 H2 => tb { D with nx := Pv (a ++ [c]) b, ct := Pv (a ++ [c]) b, bk := D.nx } σ2 H2)
    (hd : ∀ σ H, Pv l [] σ H → D.nx σ H) :
    ∃ W : Nat → Nat → L2.St → Hp → Prop, (∃ m, W 0 m σ H) ∧ ∀ i m σ H, W i m σ H →
      ((Its (tx l)).stop i H ∧ D.nx σ H) ∨ ((Its (tx l)).go i H ∧ ∃ N : L2.St → Hp → Prop, (∀ σ' H', N σ' H' → ∃ m', m' < m ∧ W (i + 1) m' σ' H') ∧
        ∀ x H', (Its (tx l)).yld i H x H' → g x σ H' fun σ2 H2 => tb { D with nx := N, ct := N, bk := D.nx } σ2 H2) := by
  refine ⟨fun i m σ H => m = l.length - i ∧ i ≤ l.length ∧ Pv (l.take i) (l.drop i) σ H, ⟨l.length, by simp, Nat.zero_le _, by simpa using h0⟩, ?_⟩
  rintro i m σ H ⟨rfl, hi, p⟩
  by_cases hlt : i < l.length
  · have hc : l[i]? = some l[i] := List.getElem?_eq_getElem hlt
    obtain ⟨e1, e2, e3⟩ := split_at hc
    refine .inr ⟨?_, Pv (l.take i ++ [l[i]]) (l.drop (i + 1)), fun σ' H' p' => ⟨l.length - (i + 1), by omega, rfl, hlt, ?_⟩, fun x H' y => ?_⟩
    · show i < (tx l).cps.size
      rw [tx_size]; exact hlt
    · rw [e3]; exact p'
    · obtain ⟨e, c, hc', rfl⟩ := y
      subst e
      rw [tx_get, hc] at hc'
      have ec := Option.some.inj hc'
      subst ec
      rw [e2] at p
      exact hs (l.take i) l[i] (l.drop (i + 1)) σ _ e1 p
  · have e : i = l.length := by omega
    subst e
    refine .inl ⟨?_, hd σ H ?_⟩
    · show (tx l).cps.size ≤ l.length
      rw [tx_size]; exact Nat.le_refl _
    · simpa using p
/-- over a list that the body leaves as it is; the items by f -/
theorem for_lst {α : Type} {f : α → V} {K : PySem.W.Frag} {a : Addr} {l : List α} {g : TG} {tb : TS} {D : Ends} {σ : L2.St} {H : Hp} (Pv : List α → List α → L2.St → Hp → Prop) (h0 : Pv [] l σ H)
    (hl : ∀ d r σ H, Pv d r σ H → SqL K H a (l.map f))
    (hs : ∀ d c b σ H, l = d ++ c :: b → Pv d (c :: b) σ H → g (f c) σ H fun σ2 H2 => tb { D with nx := Pv (d ++ [c]) b, ct := Pv (d ++ [c]) b, bk := D.nx } σ2 H2)
    (hd : ∀ σ H, Pv l [] σ H → D.nx σ H) :
    ∃ W : Nat → Nat → L2.St → Hp → Prop, (∃ m, W 0 m σ H) ∧ ∀ i m σ H, W i m σ H →
      ((Itl K a).stop i H ∧ D.nx σ H) ∨ ((Itl K a).go i H ∧ ∃ N : L2.St → Hp → Prop, (∀ σ' H', N σ' H' → ∃ m', m' < m ∧ W (i + 1) m' σ' H') ∧
        ∀ x H', (Itl K a).yld i H x H' → g x σ H' fun σ2 H2 => tb { D with nx := N, ct := N, bk := D.nx } σ2 H2) := by
  refine for_list (xs := l.map f) (fun i σ H => Pv (l.take i) (l.drop i) σ H) (by simpa using h0) (fun i σ H _ p => hl _ _ _ _ p) (fun i x σ H hx p => ?_) (fun σ H p => hd σ H (by simpa using p))
  rw [List.getElem?_map] at hx
  cases hc : l[i]? with
  | none => rw [hc] at hx; cases hx
  | some c =>
    rw [hc] at hx
    have ex : f c = x := Option.some.inj hx
    subst ex
    obtain ⟨e1, e2, e3⟩ := split_at hc
    rw [e2] at p
    rw [e3]
    exact hs _ _ _ σ H e1 p

theorem last_eq {α : Type} {l d : List α} {a c : α} (h : l ++ [a] = d ++ [c]) : a = c := by
  have := (List.append_inj' h rfl).2
  exact (List.cons.inj this).1
theorem vts_app (ws : List (List Nat)) (h : List Nat) : vts (ws ++ [h]) = vts ws ++ [vt h] := List.map_append
theorem vis_app (ws : List Int) (h : Int) : vis (ws ++ [h]) = vis ws ++ [.int h] := List.map_append
theorem flat_get {α : Type} {f : α → V} {l : List α} {i : Nat} {x : α} (h : l[i]? = some x) : (l.map f)[i]? = some (f x) := by
  rw [List.getElem?_map, h]; rfl
/-! ### literals -/
theorem lit_sp : PySem.Str.ofString " " = tx [32] := by decide +kernel
theorem lit_nl : PySem.Str.ofString "\n" = tx [10] := by decide +kernel
theorem lit_nil : PySem.Str.ofString "" = tx [] := by decide +kernel
theorem ne_vt {a b : List Nat} {x : Str} (e : x = tx b) : (!decide (vt a = V.str x)) = !decide (a = b) := by
  rw [e, dec_vt]
theorem ne_sg {a b : Nat} {x : Str} (e : x = tx [b]) : (!decide (vt [a] = V.str x)) = !decide (a = b) := by
  rw [ne_vt e]
  simp
theorem sz {n : Nat} (h : n ≤ 16777216 := by omega) : n ≤ sizeLine := by
  rw [sizeLine_eq]; exact h
theorem szl {n : Nat} (h : n < 16777216 := by omega) : n < sizeLine := by
  rw [sizeLine_eq]; exact h
/-! ### tests -/
theorem tst {b : Bool} {c A B : Prop} [Decidable c] (e : b = decide c) (h1 : c → A) (h2 : ¬ c → B) : if b = true then A else B := by
  subst e
  by_cases h : c
  · rw [if_pos (decide_eq_true h)]; exact h1 h
  · rw [if_neg (by simpa using h)]; exact h2 h
theorem tsn {b : Bool} {c A B : Prop} [Decidable c] (e : b = !decide c) (h1 : ¬ c → A) (h2 : c → B) : if b = true then A else B := by
  subst e
  by_cases h : c
  · rw [if_neg (by simpa using h)]; exact h2 h
  · rw [if_pos (by simpa using h)]; exact h1 h
/-! ### slices -/
theorem cut_from {α : Type} (f : α → V) (l : List α) (k : Nat) : cutV (l.map f) (some (k : Int)) none = (l.drop k).map f := by
  unfold cutV
  rw [show HT.sIx (l.map f).length 0 (some (k : Int)) = min k (l.map f).length from HT.sIx_nat _ 0 k, HT.sIx_none, List.length_map, List.map_drop]
  by_cases h : k ≤ l.length
  · rw [Nat.min_eq_left h, List.take_of_length_le (by simp)]
  · have h2 : l.length ≤ k := by omega
    rw [Nat.min_eq_right h2, List.drop_of_length_le (by simp), List.drop_of_length_le (by simpa using h2)]
    simp
theorem cut_to {α : Type} (f : α → V) (l : List α) (k : Nat) : cutV (l.map f) none (some (k : Int)) = (l.take k).map f := by
  unfold cutV
  rw [show HT.sIx (l.map f).length (l.map f).length (some (k : Int)) = min k (l.map f).length from HT.sIx_nat _ _ k, HT.sIx_none, List.length_map, List.map_take, List.drop_zero, Nat.sub_zero]
  by_cases h : k ≤ l.length
  · rw [Nat.min_eq_left h]
  · have h2 : l.length ≤ k := by omega
    rw [Nat.min_eq_right h2, List.take_of_length_le (by simp), List.take_of_length_le (by simpa using h2)]
theorem cut_ft {α : Type} (f : α → V) (l : List α) (a b : Nat) : cutV (l.map f) (some (a : Int)) (some (b : Int)) = ((l.drop a).take (b - a)).map f := by
  unfold cutV
  rw [show HT.sIx (l.map f).length (l.map f).length (some (b : Int)) = min b (l.map f).length from HT.sIx_nat _ _ b, show HT.sIx (l.map f).length 0 (some (a : Int)) = min a (l.map f).length from HT.sIx_nat _ _ a, List.length_map, List.map_take, List.map_drop]
  by_cases ha : a ≤ l.length
  · rw [Nat.min_eq_left ha]
    by_cases hb : b ≤ l.length
    · rw [Nat.min_eq_left hb]
    · have h1 : (List.drop a (List.map f l)).length ≤ min b l.length - a := by
        rw [List.length_drop, List.length_map]; omega
      have h2 : (List.drop a (List.map f l)).length ≤ b - a := by
        rw [List.length_drop, List.length_map]; omega
      rw [List.take_of_length_le h1, List.take_of_length_le h2]
  · have h1 : List.drop (min a l.length) (List.map f l) = [] := List.drop_of_length_le (by rw [List.length_map]; omega)
    have h2 : List.drop a (List.map f l) = [] := List.drop_of_length_le (by rw [List.length_map]; omega)
    rw [h1, h2, List.take_nil, List.take_nil]
/-! ### words -/
def wcut (h : List Nat) : List Nat → List (List Nat)
  | [] => if h = [] then [] else [h]
  | c :: r => if c = 32 ∨ c = 10 then (if h = [] then wcut [] r else h :: wcut [] r) else wcut (h ++ [c]) r
theorem wcut_b {c : Nat} {r : List Nat} (h : c = 32 ∨ c = 10) : wcut [] (c :: r) = wcut [] r := by
  simp only [wcut]; rw [if_pos h]; simp
theorem wcut_w {c : Nat} {r h : List Nat} (n : h ≠ []) (hc : c = 32 ∨ c = 10) : wcut h (c :: r) = h :: wcut [] r := by
  simp only [wcut]; rw [if_pos hc, if_neg n]
theorem wcut_s {c : Nat} {r h : List Nat} (hc : ¬ (c = 32 ∨ c = 10)) : wcut h (c :: r) = wcut (h ++ [c]) r := by
  simp only [wcut]; rw [if_neg hc]
theorem wcut_e {h : List Nat} (n : h ≠ []) : wcut h [] = [h] := by
  simp only [wcut]; rw [if_neg n]
theorem wcut_blank : ∀ (l h : List Nat), wcut h (l ++ [32]) = wcut h l
  | [], h => by simp [wcut]
  | c :: r, h => by
    simp only [List.cons_append, wcut]
    rw [wcut_blank r [], wcut_blank r (h ++ [c])]
theorem wcut_length : ∀ (l h : List Nat), (wcut h l).length ≤ l.length + 1
  | [], h => by simp only [wcut]; split <;> simp
  | c :: r, h => by
    simp only [wcut]
    have h1 := wcut_length r []
    have h2 := wcut_length r (h ++ [c])
    simp only [List.length_cons]
    split
    · split
      · omega
      · simp only [List.length_cons]; omega
    · omega
/-- what is in the words is in the text -/
theorem wcut_mem : ∀ (l h : List Nat) {x : List Nat} {c : Nat}, x ∈ wcut h l → c ∈ x → c ∈ h ∨ (c ∈ l ∧ c ≠ 32 ∧ c ≠ 10)
  | [], h, x, c, hx, hc => by
    simp only [wcut] at hx
    split at hx
    · cases hx
    · rw [List.mem_singleton.mp hx] at hc; exact .inl hc
  | d :: r, h, x, c, hx, hc => by
    simp only [wcut] at hx
    have up : ∀ {q : List Nat}, (c ∈ q ∨ (c ∈ r ∧ c ≠ 32 ∧ c ≠ 10)) → c ∈ q ∨ (c ∈ d :: r ∧ c ≠ 32 ∧ c ≠ 10) := fun z => z.imp id fun z => ⟨List.mem_cons_of_mem _ z.1, z.2⟩
    split at hx
    · split at hx
      · rcases up (wcut_mem r [] hx hc) with z | z
        · cases z
        · exact .inr z
      · rcases List.mem_cons.mp hx with e | hx
        · rw [e] at hc; exact .inl hc
        · rcases up (wcut_mem r [] hx hc) with z | z
          · cases z
          · exact .inr z
    · rename_i hd
      rcases wcut_mem r (h ++ [d]) hx hc with z | z
      · rcases List.mem_append.mp z with z | z
        · exact .inl z
        · rw [List.mem_singleton.mp z]
          exact .inr ⟨List.mem_cons_self, fun e => hd (.inl e), fun e => hd (.inr e)⟩
      · exact .inr ⟨List.mem_cons_of_mem _ z.1, z.2⟩
theorem wcut_ne : ∀ (l h : List Nat), [] ∉ wcut h l
  | [], h => by
    simp only [wcut]
    split
    · simp
    · rename_i n; simp; exact n
  | c :: r, h => by
    simp only [wcut]
    split
    · split
      · exact wcut_ne r []
      · rename_i n
        intro z
        rcases List.mem_cons.mp z with e | z
        · exact n e.symm
        · exact wcut_ne r [] z
    · exact wcut_ne r _
theorem wcut_plain : ∀ (l h : List Nat), (∀ c ∈ l, c ≠ 32 ∧ c ≠ 10) → wcut h l = if h ++ l = [] then [] else [h ++ l]
  | [], h, _ => by simp [wcut]
  | c :: r, h, hl => by
    have hc := hl c List.mem_cons_self
    simp only [wcut]
    rw [if_neg (by omega), wcut_plain r (h ++ [c]) fun d hd => hl d (List.mem_cons_of_mem _ hd)]
    simp
/-- the length of all signs in the words -/
def total (ws : List (List Nat)) : Nat := (ws.map List.length).sum
theorem wcut_total : ∀ (l h : List Nat), total (wcut h l) ≤ h.length + l.length
  | [], h => by
    simp only [wcut]
    split <;> simp [total]
  | c :: r, h => by
    simp only [wcut]
    have h1 := wcut_total r []
    have h2 := wcut_total r (h ++ [c])
    simp only [List.length_append, List.length_cons, List.length_nil] at h1 h2 ⊢
    split
    · split
      · omega
      · simp only [total, List.map_cons, List.sum_cons] at h1 ⊢; omega
    · omega
theorem one_word (l : List Nat) : wcut [] l = [l] ↔ (l ≠ [] ∧ 32 ∉ l ∧ 10 ∉ l) := by
  constructor
  · intro h
    refine ⟨fun e => ?_, fun z => ?_, fun z => ?_⟩
    · subst e; simp [wcut] at h
    · have := wcut_mem l [] (x := l) (c := 32) (by rw [h]; simp) z
      rcases this with z | z
      · cases z
      · exact z.2.1 rfl
    · have := wcut_mem l [] (x := l) (c := 10) (by rw [h]; simp) z
      rcases this with z | z
      · cases z
      · exact z.2.2 rfl
  · rintro ⟨h1, h2, h3⟩
    rw [wcut_plain l [] fun c hc => ⟨fun e => h2 (e ▸ hc), fun e => h3 (e ▸ hc)⟩]
    simp [h1]
/-- texts joined -/
def jn (y : List Nat) : List (List Nat) → List Nat
  | [] => []
  | [p] => p
  | p :: q :: r => p ++ (y ++ jn y (q :: r))
theorem jn_eq (y : List Nat) : ∀ ws : List (List Nat), TL.joinL y ws = jn y ws
  | [] => rfl
  | [_] => rfl
  | p :: q :: r => by
    show p ++ (y ++ TL.joinL y (q :: r)) = p ++ (y ++ jn y (q :: r))
    rw [jn_eq y (q :: r)]
theorem join_tx (y : List Nat) (ws : List (List Nat)) : Txt.join (tx y) (ws.map tx) = tx (jn y ws) := by
  rw [TL.join_eq]
  refine TL.ext_tl ?_
  have tlx : ∀ x : List Nat, TL.tl (tx x) = x := fun x => tx_list x
  rw [TL.tl_join, tlx, tlx, List.map_map, show (TL.tl ∘ tx) = (id : List Nat → List Nat) from funext tlx, List.map_id, jn_eq]
theorem jn_len (y : List Nat) : ∀ ws : List (List Nat), (jn y ws).length ≤ total ws + ws.length * y.length
  | [] => by simp [jn]
  | [p] => by simp [jn, total]
  | p :: q :: r => by
    have h := jn_len y (q :: r)
    have e : (p :: q :: r).length * y.length = (q :: r).length * y.length + y.length := by rw [List.length_cons, Nat.succ_mul]
    rw [e]
    show (p ++ (y ++ jn y (q :: r))).length ≤ _
    have e2 : total (p :: q :: r) = p.length + total (q :: r) := rfl
    rw [List.length_append, List.length_append, e2]
    omega
/-- of such a text's signs -/
def plainTx (l : List Nat) : Prop := ∀ c ∈ l, c < 1114112
theorem plain_ok {l : List Nat} (h : plainTx l) : PyData.strOk (tx l) = true := by
  show l.toArray.all _ = true
  rw [List.all_toArray, List.all_eq_true]
  intro c hc
  exact decide_eq_true (h c hc)
theorem flat_vts {ws : List (List Nat)} (h : ∀ x ∈ ws, plainTx x) : (vts ws).all flat = true := by
  rw [List.all_map, List.all_eq_true]
  exact fun x hx => plain_ok (h x hx)
/-! ### the end: what the top has written -/
theorem at_mk {K : PySem.W.Frag} {h : Heap} {mg : Str → Option Value} {x : Str} {ps : List Str} {st : Stmt} {f : Addr} {oc kV dc pm cd ct : Value} {od an : Option Addr} {sl : Array (Option Value)}
    (X : K.In h) (G : h.Ns mainGlobals mg) (a : PySem.W.nsIn K mainGlobals x = some (some (.ref f)))
    (l : K.lookup f = some ⟨oc, od, .func (PySem.W.fnOf x x (defArgs st) (defBody st) (defScope st) .none kV dc pm an cd ct), sl⟩)
    (c : PySem.W.codeIn K cd x = true) (k : PySem.W.keepIn K (.ref f) = true)
    (b : ∀ (kV doc pm : Value) (an : Option Addr) (cdv ct : Value) (us : List Value), us.length = ps.length →
      bindArgs (PySem.W.fnOf x x (defArgs st) (defBody st) (defScope st) .none kV doc pm an cdv ct) ⟨us, []⟩ = pure (ps.zip us)) : At K mg x ps st := by
  have F := fun_mk (x := x) (qual := x) (st := st) l c k
  exact ⟨f, _, PySem.W.mg_of X G a, F, F.binds b⟩
structure LawAt (K : PySem.W.Frag) (fa : Addr) (x p : Str) (st : Stmt) : Prop where
  ex : ∃ fd, (∀ (s : Shared) (v : Value), BindsTo s fd ⟨[v], []⟩ [(p, v)]) ∧ Fun K x x st fa fd
theorem lawat_mk {K : PySem.W.Frag} {h : Heap} {mg : Str → Option Value} {x p : Str} {st : Stmt} {f fa : Addr} {oc kV dc pm cd ct : Value} {od an : Option Addr} {sl : Array (Option Value)}
    (X : K.In h) (G : h.Ns mainGlobals mg) (hfa : mg x = some (.ref fa)) (a : PySem.W.nsIn K mainGlobals x = some (some (.ref f)))
    (l : K.lookup f = some ⟨oc, od, .func (PySem.W.fnOf x x (defArgs st) (defBody st) (defScope st) .none kV dc pm an cd ct), sl⟩)
    (c : PySem.W.codeIn K cd x = true) (k : PySem.W.keepIn K (.ref f) = true)
    (b : ∀ (kV doc pm : Value) (an : Option Addr) (cdv ct : Value) (s : Shared) (v : Value),
      BindsTo s (PySem.W.fnOf x x (defArgs st) (defBody st) (defScope st) .none kV doc pm an cdv ct) ⟨[v], []⟩ [(p, v)]) : LawAt K fa x p st := by
  have e := hfa.symm.trans (PySem.W.mg_of X G a)
  cases e
  exact ⟨_, b kV dc pm an cd ct, fun_mk (x := x) (qual := x) (st := st) l c k⟩
theorem bts_mk {K : PySem.W.Frag} {h : Heap} {mg : Str → Option Value} (X : K.In h) (G : h.Ns mainGlobals mg)
    (z1 : PySem.W.nsIn K mainGlobals "len" = some none) (z2 : PySem.W.nsIn K mainGlobals "range" = some none) (z3 : PySem.W.nsIn K mainGlobals "max" = some none)
    (z4 : PySem.W.nsIn K mainGlobals "sum" = some none) (z5 : PySem.W.nsIn K mainGlobals "int" = some none) (z6 : PySem.W.nsIn K mainGlobals "bool" = some none)
    (z7 : PySem.W.nsIn K mainGlobals "str" = some none) (z8 : PySem.W.nsIn K mainGlobals "list" = some none) (z9 : PySem.W.nsIn K mainGlobals "isinstance" = some none)
    (za : PySem.W.nsIn K mainGlobals "sorted" = some none) (zb : PySem.W.nsIn K mainGlobals "reversed" = some none) (zc : PySem.W.nsIn K mainGlobals "ValueError" = some none) : Bts mg :=
  have n : ∀ {x : Str}, PySem.W.nsIn K mainGlobals x = some none → mg x = none := fun z => PySem.W.mg_none_of X G z
  ⟨n z1, n z2, n z3, n z4, n z5, n z6, n z7, n z8, n z9, n za, n zb, n zc⟩
end Tw
namespace Tw
open PySem PySem.Spec PyProof.Rows L2
def topS (i : Nat) : Stmt := PySem.Challenge.pw_textwrapper_k01_words_cut.main.body.getD i (.Pass ⟨0, 0, 0, 0⟩)
abbrev st_words_of : Stmt := topS 1
abbrev N_words_of : List Str := ["text", "found", "word", "sign"]
theorem sc_words_of : FnScope N_words_of ["text"] (defScope st_words_of) := ⟨rfl, rfl, rfl, by decide +kernel, rfl, by decide +kernel, by decide +kernel⟩
abbrev st_is_word : Stmt := topS 2
abbrev N_is_word : List Str := ["text"]
theorem sc_is_word : FnScope N_is_word ["text"] (defScope st_is_word) := ⟨rfl, rfl, rfl, by decide +kernel, rfl, by decide +kernel, by decide +kernel⟩
abbrev st__law_cell_at : Stmt := topS 4
abbrev N__law_cell_at : List Str := ["_law_script", "_law_k"]
theorem sc__law_cell_at : FnScope N__law_cell_at ["_law_script", "_law_k"] (defScope st__law_cell_at) := ⟨rfl, rfl, rfl, by decide +kernel, rfl, by decide +kernel, by decide +kernel⟩
abbrev st__law_sign_by : Stmt := topS 5
abbrev N__law_sign_by : List Str := ["_law_cell", "_law_some"]
theorem sc__law_sign_by : FnScope N__law_sign_by ["_law_cell"] (defScope st__law_sign_by) := ⟨rfl, rfl, rfl, by decide +kernel, rfl, by decide +kernel, by decide +kernel⟩
abbrev st__law_texts : Stmt := topS 6
abbrev N__law_texts : List Str := ["_law_found", "_law_due", "_law_k"]
theorem sc__law_texts : FnScope N__law_texts ["_law_found", "_law_due"] (defScope st__law_texts) := ⟨rfl, rfl, rfl, by decide +kernel, rfl, by decide +kernel, by decide +kernel⟩
abbrev st__law_text_by : Stmt := topS 7
abbrev N__law_text_by : List Str := ["_law_cells", "_law_signs", "_law_cell"]
theorem sc__law_text_by : FnScope N__law_text_by ["_law_cells"] (defScope st__law_text_by) := ⟨rfl, rfl, rfl, by decide +kernel, rfl, by decide +kernel, by decide +kernel⟩
abbrev st__law_cut : Stmt := topS 8
abbrev N__law_cut : List Str := ["_law_signs", "_law_row", "_law_held", "_law_sign"]
theorem sc__law_cut : FnScope N__law_cut ["_law_signs"] (defScope st__law_cut) := ⟨rfl, rfl, rfl, by decide +kernel, rfl, by decide +kernel, by decide +kernel⟩
abbrev st_law : Stmt := topS 9
abbrev N_law : List Str := ["_law_script", "_law_signs", "_law_told"]
theorem sc_law : FnScope N_law ["_law_script"] (defScope st_law) := ⟨rfl, rfl, rfl, by decide +kernel, rfl, by decide +kernel, by decide +kernel⟩
section
variable {P : Program} {w : World} {K : PySem.W.Frag} {mg : Str → Option Value} {base : Heap}
def sp_words_of : Sp := fun vs H Q _ => ∃ l : List Nat, vs = [vt l] ∧ l.length ≤ 1000000 ∧
  ∀ H' p, Same H H' → H p = none → H' p = some (.lst (vts (wcut [] l))) → Q (.ref p) H'
theorem ok_words_of (A : At K mg "words_of" ["text"] st_words_of) (T : Bts mg) : Ok P w K mg base CX0 1 "words_of" ["text"] sp_words_of := by
  refine A.ok sc_words_of (fun vs H Q E h => ?_) (fun f cdv A outer s H vs Q E hr h => ?_)
  · obtain ⟨l, rfl, _⟩ := h; rfl
  · obtain ⟨l, rfl, hl, q⟩ := h
    refine ⟨_, (pss_cons (ps_set (i := 1) sc_words_of.nd rfl (Or.inl rfl) (pe_lst pa_nil))
      (pss_cons (ps_set (i := 2) sc_words_of.nd rfl (Or.inl rfl) pe_str)
      (pss_cons (ps_for PassesOwn.never rfl (pi_str (pe_op op_add_str (pv 0) pe_str)) (pg_name (i := 3) sc_words_of.nd rfl (Or.inl rfl))
      (pss_one (ps_if (PW.pt (pw_and (pt_cmpR op_ne (pv 3) pe_str (nomark _)) (pw_and1 (pt_cmpR op_ne (pv 3) pe_str (nomark _))))) (pss_one (ps_set (i := 2) sc_words_of.nd rfl (Or.inl rfl) (pe_op op_add_str (pv 2) (pv 3)))) (pss_one (ps_if (pt_cmpR op_ne (pv 2) pe_str (nomark _)) (pss_cons (ps_expr (pe_bm PySem.F.plainAttrs_list PySem.F.slot_list_append PySem.F.type_list_append mt_append (pv 1) (pa_cons (pv 2) pa_nil)))
      (pss_one (ps_set (i := 2) sc_words_of.nd rfl (Or.inl rfl) pe_str))) pss_nil)))))
      (pss_one (ps_ret (pv 1)))))), ?_⟩
    refine ⟨Nat.zero_le _, fun o no => ?_⟩
    refine ⟨_, rfl, _, _, rfl, rfl, ?_, tx (l ++ [32]), ?_, ?_⟩
    · rw [lit_sp, tx_len, tx_len]; exact sz (by simp; omega)
    · rw [lit_sp, tx_app]
    refine for_txt (l := l ++ [32]) (fun d r σ H3 => ∃ ws h y, σ = [some (vt l), some (.ref o), some (vt h), y] ∧ Same H H3 ∧
      H3 o = some (.lst (vts ws)) ∧ ws.length + r.length ≤ l.length + 2 ∧ h.length + r.length ≤ l.length + 1 ∧ ws ++ wcut h r = wcut [] l ∧ (r = [] → h = [])) ?_ ?_ ?_
    · refine ⟨[], [], none, ?_, (Same.refl H).new no, upd_same, by simp, by simp, by rw [wcut_blank]; rfl, fun _ => rfl⟩
      rw [lit_nil]; rfl
    · rintro d c r σ H3 e ⟨ws, h, y, rfl, sm, eo, e1, e2, ew, ez⟩
      have o' : H o = none := no
      simp only [List.length_cons] at e1 e2
      -- sign != " " and sign != "\n"
      refine ⟨_, rfl, rfl, _, rfl, tsn (c := c = 32) (ne_sg lit_sp) (fun n1 => ?_) (fun n1 => ?_)⟩
      · refine ⟨_, rfl, rfl, _, rfl, tsn (c := c = 10) (ne_sg lit_nl) (fun n2 => ?_) (fun n2 => ?_)⟩
        · refine ⟨_, rfl, _, rfl, _, _, rfl, rfl, ?_, ws, h ++ [c], some (vt [c]), ?_, sm, eo, by omega, by simp; omega, ?_, fun z => ?_⟩
          · rw [tx_len, tx_len]; exact sz (by simp; omega)
          · rw [tx_app]; rfl
          · rw [← ew, wcut_s (by omega)]
          · subst z; exact absurd (last_eq e).symm n1
        · refine ⟨_, rfl, rfl, _, rfl, tsn (c := h = []) (ne_vt lit_nil) (fun n3 => ?_) (fun n3 => ?_)⟩
          · refine ⟨_, rfl, .inl ⟨rfl, _, .inl (.inl eo)⟩, _, rfl, o, _, _, rfl, rfl, eo, ?_, ?_⟩
            · rw [List.length_map]; exact szl (by omega)
            · refine ⟨ws ++ [h], [], some (vt [c]), ?_, sm.put no, ?_, by simp; omega, by simp; omega, ?_, fun _ => rfl⟩
              · rw [lit_nil]; rfl
              · rw [upd_same, vts_app]
              · rw [← ew, wcut_w n3 (by omega)]; simp
          · subst n3
            refine ⟨ws, [], some (vt [c]), rfl, sm, eo, by omega, by simp; omega, ?_, fun _ => rfl⟩
            rw [← ew, wcut_b (by omega)]
      · refine ⟨_, rfl, rfl, _, rfl, tsn (c := h = []) (ne_vt lit_nil) (fun n3 => ?_) (fun n3 => ?_)⟩
        · refine ⟨_, rfl, .inl ⟨rfl, _, .inl (.inl eo)⟩, _, rfl, o, _, _, rfl, rfl, eo, ?_, ?_⟩
          · rw [List.length_map]; exact szl (by omega)
          · refine ⟨ws ++ [h], [], some (vt [c]), ?_, sm.put no, ?_, by simp; omega, by simp; omega, ?_, fun _ => rfl⟩
            · rw [lit_nil]; rfl
            · rw [upd_same, vts_app]
            · rw [← ew, wcut_w n3 (by omega)]; simp
        · subst n3
          refine ⟨ws, [], some (vt [c]), rfl, sm, eo, by omega, by simp; omega, ?_, fun _ => rfl⟩
          rw [← ew, wcut_b (by omega)]
    · rintro σ H3 ⟨ws, h, y, rfl, sm, eo, e1, e2, ew, ez⟩
      rw [ez rfl] at ew
      rw [show wcut [] [] = [] from rfl, List.append_nil] at ew
      exact ⟨_, rfl, q H3 o sm no (by rw [eo, ew])⟩

def sp_is_word : Sp := fun vs H Q _ => ∃ l : List Nat, vs = [vt l] ∧ l.length ≤ 1000000 ∧ Q (.bl (decide (l ≠ [] ∧ 32 ∉ l ∧ 10 ∉ l))) H
theorem ok_is_word (A : At K mg "is_word" ["text"] st_is_word) (T : Bts mg) : Ok P w K mg base CX0 1 "is_word" ["text"] sp_is_word := by
  refine A.ok sc_is_word (fun vs H Q E h => ?_) (fun f cdv A outer s H vs Q E hr h => ?_)
  · obtain ⟨l, rfl, _⟩ := h; rfl
  · obtain ⟨l, rfl, hl, q⟩ := h
    refine ⟨_, (pss_one (ps_ret (pe_and (pe_cmpR op_ne (pv 0) pe_str (nomark _)) (pe_and (pe_cmpR op_notIn_sign pe_str (pv 0) rfl) (pe_one (pe_cmpR op_notIn_sign pe_str (pv 0) rfl)))))), ?_⟩
    refine ⟨_, rfl, rfl, _, rfl, tsn (c := l = []) (ne_vt lit_nil) (fun n1 => ?_) (fun n1 => ?_)⟩
    · refine ⟨_, rfl, 32, tx l, by rw [lit_sp]; rfl, rfl, _, rfl, tsn (c := 32 ∈ l) (by rw [tx_list]) (fun n2 => ?_) (fun n2 => ?_)⟩
      · refine ⟨_, rfl, 10, tx l, by rw [lit_nl]; rfl, rfl, ?_⟩
        have e : (!decide (10 ∈ (tx l).cps.toList)) = decide (l ≠ [] ∧ 32 ∉ l ∧ 10 ∉ l) := by
          rw [tx_list]
          by_cases n3 : 10 ∈ l <;> simp [n1, n2, n3]
        rw [e]; exact q
      · have e : decide (l ≠ [] ∧ 32 ∉ l ∧ 10 ∉ l) = false := decide_eq_false (fun z => z.2.1 n2)
        rw [e] at q; exact q
    · have e : decide (l ≠ [] ∧ 32 ∉ l ∧ 10 ∉ l) = false := decide_eq_false (fun z => z.1 n1)
      rw [e] at q; exact q

def cell (ns : List Int) (k : Nat) : Int := ns.getD k 0
def sp__law_cell_at (K : PySem.W.Frag) : Sp := fun vs H Q _ => ∃ (a : Addr) (ns : List Int) (k : Nat), vs = [.ref a, .int k] ∧ SqL K H a (vis ns) ∧ Q (.int (cell ns k)) H
theorem ok__law_cell_at (A : At K mg "_law_cell_at" ["_law_script", "_law_k"] st__law_cell_at) (T : Bts mg) : Ok P w K mg base CX0 1 "_law_cell_at" ["_law_script", "_law_k"] (sp__law_cell_at K) := by
  refine A.ok sc__law_cell_at (fun vs H Q E h => ?_) (fun f cdv A outer s H vs Q E hr h => ?_)
  · obtain ⟨a, ns, k, rfl, _⟩ := h; rfl
  · obtain ⟨a, ns, k, rfl, hS, q⟩ := h
    refine ⟨_, (pss_cons (ps_if (pt_cmpR op_lt (pv 1) (pe_callB call_len_seq (by rfl) T.m_len PySem.boot_len (pa_cons (pv 0) pa_nil)) (nomark _)) (pss_one (ps_ret (pe_ix ix_list (pv 0) (pv 1) (fun _ _ => rfl)))) pss_nil)
      (pss_one (ps_ret pe_int))), ?_⟩
    refine ⟨_, rfl, _, rfl, a, _, rfl, .inl hS, _, _, rfl, rfl, _, rfl, tst (c := k < ns.length) ?_ (fun n => ?_) (fun n => ?_)⟩
    · rw [List.length_map]
      by_cases e : k < ns.length
      · rw [decide_eq_true e, decide_eq_true (by omega)]
      · rw [decide_eq_false e, decide_eq_false (by omega)]
    · refine ⟨_, rfl, _, rfl, a, _, _, _, rfl, rfl, hS, atI_nat (flat_get (List.getElem?_eq_getElem n)), ?_⟩
      have e : cell ns k = ns[k] := by
        unfold cell
        rw [List.getD_eq_getElem?_getD, List.getElem?_eq_getElem n]; rfl
      rw [e] at q; exact q
    · have e : cell ns k = 0 := by
        unfold cell
        rw [List.getD_eq_getElem?_getD, List.getElem?_eq_none (by omega)]; rfl
      rw [e] at q
      exact q

def signs : List Nat := [33, 34, 35, 36, 38, 39, 40, 41, 42, 43, 44, 45, 46, 47, 48, 49, 50, 51, 52, 53, 54, 55, 56, 57, 58, 59, 60, 61, 62, 63, 64, 65, 66, 67, 68, 69, 70, 71, 72, 73, 74, 75, 76, 77, 78, 79, 80, 81, 82, 83, 84, 85, 86, 87, 88, 89, 90, 91, 92, 93, 94, 95, 96]
def signs2 : List Nat := [97, 98, 99, 100, 101, 102, 103, 104, 105, 106, 107, 108, 109, 110, 111, 112, 113, 114, 115, 116, 117, 118, 119, 120, 121, 122, 123, 124, 125, 126]
def sign (n : Int) : Nat := (signs ++ signs2).getD (n % 93).toNat 33
theorem lit_signs : PySem.Str.ofString "!\"#$&'()*+,-./0123456789:;<=>?@ABCDEFGHIJKLMNOPQRSTUVWXYZ[\\]^_`" = tx signs := by decide +kernel
theorem lit_signs2 : PySem.Str.ofString "abcdefghijklmnopqrstuvwxyz{|}~" = tx signs2 := by decide +kernel
theorem sign_in (n : Int) : 33 ≤ sign n ∧ sign n ≤ 126 := by
  have h : ∀ k : Nat, k < 93 → 33 ≤ (signs ++ signs2).getD k 33 ∧ (signs ++ signs2).getD k 33 ≤ 126 := by decide +kernel
  exact h _ (by omega)
def sp__law_sign_by : Sp := fun vs H Q _ => ∃ n : Int, vs = [.int n] ∧ Q (vt [sign n]) H
theorem ok__law_sign_by (A : At K mg "_law_sign_by" ["_law_cell"] st__law_sign_by) (T : Bts mg) : Ok P w K mg base CX0 1 "_law_sign_by" ["_law_cell"] sp__law_sign_by := by
  refine A.ok sc__law_sign_by (fun vs H Q E h => ?_) (fun f cdv A outer s H vs Q E hr h => ?_)
  · obtain ⟨n, rfl, _⟩ := h; rfl
  · obtain ⟨n, rfl, q⟩ := h
    refine ⟨_, (pss_cons (ps_set (i := 1) sc__law_sign_by.nd rfl (Or.inl rfl) pe_str)
      (pss_cons (ps_set (i := 1) sc__law_sign_by.nd rfl (Or.inl rfl) (pe_op op_add_str (pv 1) pe_str))
      (pss_one (ps_ret (pe_ix ix_str (pv 1) (pe_op op_mod (pv 0) pe_int) (fun _ _ => rfl)))))), ?_⟩
    refine ⟨_, rfl, _, _, rfl, rfl, ?_, ?_⟩
    · rw [lit_signs, lit_signs2]; exact sz (by decide)
    · refine ⟨_, rfl, _, rfl, _, _, rfl, rfl, (show (0 : Int) < 93 by decide), tx (signs ++ signs2), n % 93, sign n, ?_, rfl, ?_, ?_, ?_⟩
      · rw [lit_signs, lit_signs2, tx_app]
      · rw [tx_len]; exact sz (by decide)
      · rw [tx_list, show n % 93 = ((n % 93).toNat : Nat) by omega]
        refine atI_nat ?_
        unfold sign
        rw [List.getD_eq_getElem?_getD]
        have h : (n % 93).toNat < (signs ++ signs2).length := by
          have : (signs ++ signs2).length = 93 := rfl
          omega
        rw [List.getElem?_eq_getElem h]; rfl
      · exact q

def sp__law_texts (K : PySem.W.Frag) : Sp := fun vs H Q _ => ∃ (a b : Addr) (ws : List (List Nat)), vs = [.ref a, .ref b] ∧ H a = some (.lst (vts ws)) ∧ SqL K H b (vts ws) ∧ ws.length ≤ 1000000 ∧ Q (.bl true) H
theorem ok__law_texts (A : At K mg "_law_texts" ["_law_found", "_law_due"] st__law_texts) (T : Bts mg) : Ok P w K mg base CX0 1 "_law_texts" ["_law_found", "_law_due"] (sp__law_texts K) := by
  refine A.ok sc__law_texts (fun vs H Q E h => ?_) (fun f cdv A outer s H vs Q E hr h => ?_)
  · obtain ⟨a, b, ws, rfl, _⟩ := h; rfl
  · obtain ⟨a, b, ws, rfl, ha, hb, hl, q⟩ := h
    refine ⟨_, (pss_cons (ps_if (PW.pt (pw_or (pt_not (pt_val (pe_callB call_isi (by rfl) T.m_isinstance (by decide +kernel) (pa_cons (pv 0) (pa_cons (pe_bltn (v := .ty "list") (u := .type "list") (by rfl) T.m_list (by decide +kernel) rfl) pa_nil))))) (pw_or1 (pt_cmpR op_ne (pe_callB call_len_seq (by rfl) T.m_len PySem.boot_len (pa_cons (pv 0) pa_nil)) (pe_callB call_len_seq (by rfl) T.m_len PySem.boot_len (pa_cons (pv 1) pa_nil)) (nomark _))))) (pss_one (ps_ret pe_bl)) pss_nil)
      (pss_cons (ps_for PassesOwn.never rfl (pi_range1 (by rfl) T.m_range (pa_cons (pe_callB call_len_seq (by rfl) T.m_len PySem.boot_len (pa_cons (pv 1) pa_nil)) pa_nil)) (pg_name (i := 2) sc__law_texts.nd rfl (Or.inl rfl))
      (pss_one (ps_if (PW.pt (pw_or (pt_not (pt_val (pe_callB call_isi (by rfl) T.m_isinstance (by decide +kernel) (pa_cons (pe_ix ix_list (pv 0) (pv 2) (fun _ _ => rfl)) (pa_cons (pe_bltn (v := .ty "str") (u := .type "str") (by rfl) T.m_str (by decide +kernel) rfl) pa_nil))))) (pw_or1 (pt_cmpR op_ne (pe_ix ix_list (pv 0) (pv 2) (fun _ _ => rfl)) (pe_ix ix_list (pv 1) (pv 2) (fun _ _ => rfl)) (nomark _))))) (pss_one (ps_ret pe_bl)) pss_nil)))
      (pss_one (ps_ret pe_bl)))), ?_⟩
    refine ⟨_, rfl, .ref a, .ty "list", _, _, true, rfl, .ty "list", .base (.lst ha), kit_ty (by decide +kernel), ?_⟩
    refine ⟨true, rfl, iteF ?_⟩
    refine ⟨_, rfl, a, _, rfl, .inl (.of ha), _, rfl, b, _, rfl, .inl hb, rfl, _, rfl, tsn (c := True) (by simp) (fun n => absurd trivial n) (fun _ => ?_)⟩
    refine ⟨_, rfl, b, _, rfl, .inl hb, ((vts ws).length : Nat), rfl, by omega, by rw [List.length_map]; omega, ?_⟩
    rw [Int.toNat_natCast]
    refine for_range (n := (vts ws).length) (fun i σ H3 => H3 = H ∧ ∃ y, σ = [some (.ref a), some (.ref b), y]) ⟨rfl, none, rfl⟩ ?_ ?_
    · rintro i σ H3 hi ⟨rfl, y, rfl⟩
      have hi' : i < ws.length := by rw [List.length_map] at hi; exact hi
      have g : (vts ws)[i]? = some (vt ws[i]) := flat_get (List.getElem?_eq_getElem hi')
      have e0 : (0 + (i : Int)) = (i : Int) := by omega
      refine ⟨_, rfl, _, rfl, a, _, _, _, rfl, rfl, .of ha, at_of e0 g, _, .ty "str", _, _, true, rfl, .ty "str", .base (.str _), kit_ty (by decide +kernel), true, rfl, iteF ?_⟩
      refine ⟨_, rfl, _, rfl, a, _, _, _, rfl, rfl, .of ha, at_of e0 g, _, rfl, _, rfl, b, _, _, _, rfl, rfl, hb, at_of e0 g, rfl, _, rfl, tsn (c := True) (by simp) (fun n => absurd trivial n) (fun _ => ?_)⟩
      exact ⟨rfl, _, rfl⟩
    · rintro σ H3 ⟨rfl, y, rfl⟩
      exact q

def sp__law_text_by (K : PySem.W.Frag) : Sp := fun vs H Q _ => ∃ (a : Addr) (ns : List Int), vs = [.ref a] ∧ SqL K H a (vis ns) ∧ ns.length ≤ 63 ∧
  ∀ l : List Nat, l.length ≤ ns.length → plainTx l → Q (vt l) H
theorem ok__law_text_by (A : At K mg "_law_text_by" ["_law_cells"] st__law_text_by) (T : Bts mg) (G__law_sign_by : Ok P w K mg base CX0 1 "_law_sign_by" ["_law_cell"] sp__law_sign_by) :
    Ok P w K mg base CX0 2 "_law_text_by" ["_law_cells"] (sp__law_text_by K) := by
  refine A.ok sc__law_text_by (fun vs H Q E h => ?_) (fun f cdv A outer s H vs Q E hr h => ?_)
  · obtain ⟨a, ns, rfl, _⟩ := h; rfl
  · obtain ⟨a, ns, rfl, hS, hl, q⟩ := h
    refine ⟨_, (pss_cons (ps_set (i := 1) sc__law_text_by.nd rfl (Or.inl rfl) pe_str)
      (pss_cons (ps_for PassesOwn.never rfl (pi_list (pv 0)) (pg_name (i := 2) sc__law_text_by.nd rfl (Or.inl rfl))
      (pss_one (ps_if (pt_cmpR op_lt (pe_op op_mod (pv 2) pe_int) pe_int (nomark _)) (pss_one (ps_set (i := 1) sc__law_text_by.nd rfl (Or.inl rfl) (pe_op op_add_str (pv 1) pe_str))) (pss_one (ps_if (pt_cmpR op_eq (pe_op op_mod (pv 2) pe_int) pe_int (nomark _)) (pss_one (ps_set (i := 1) sc__law_text_by.nd rfl (Or.inl rfl) (pe_op op_add_str (pv 1) pe_str))) (pss_one (ps_set (i := 1) sc__law_text_by.nd rfl (Or.inl rfl) (pe_op op_add_str (pv 1) (pe_cd G__law_sign_by (hr.mono (by decide)) pass0 (pa_cons (pe_op op_fdiv (pv 2) pe_int) pa_nil))))))))))
      (pss_one (ps_ret (pv 1))))), ?_⟩
    refine ⟨_, rfl, a, rfl, ⟨_, hS⟩, ?_⟩
    refine for_lst (f := V.int) (l := ns) (fun d r σ H3 => H3 = H ∧ ∃ l y, σ = [some (.ref a), some (vt l), y] ∧ l.length ≤ d.length ∧ plainTx l) ?_ ?_ ?_ ?_
    · refine ⟨rfl, [], none, ?_, by simp, fun c h => by cases h⟩
      rw [lit_nil]; rfl
    · rintro d r σ H3 ⟨rfl, _⟩; exact hS
    · rintro d c r σ H3 e ⟨rfl, l, y, rfl, h1, h2⟩
      have hd : d.length < ns.length := by rw [e]; simp
      have add : ∀ (x : Nat), x < 1114112 → plainTx (l ++ [x]) := fun x hx c hc => by
        rcases List.mem_append.mp hc with z | z
        · exact h2 c z
        · rw [List.mem_singleton.mp z]; exact hx
      refine ⟨_, rfl, _, _, rfl, rfl, (show (0 : Int) < 8 by decide), _, _, rfl, rfl, _, rfl, tst (c := c % 8 < 2) rfl (fun n1 => ?_) (fun n1 => ?_)⟩
      · refine ⟨_, rfl, _, _, rfl, rfl, ?_, rfl, l ++ [32], some (.int c), ?_, by simp; omega, add _ (by decide)⟩
        · rw [lit_sp, tx_len, tx_len]; exact sz (by simp; omega)
        · rw [lit_sp, tx_app]; rfl
      · refine ⟨_, rfl, _, _, rfl, rfl, (show (0 : Int) < 8 by decide), rfl, _, rfl, tst (c := c % 8 = 2) dec_vi (fun n2 => ?_) (fun n2 => ?_)⟩
        · refine ⟨_, rfl, _, _, rfl, rfl, ?_, rfl, l ++ [10], some (.int c), ?_, by simp; omega, add _ (by decide)⟩
          · rw [lit_nl, tx_len, tx_len]; exact sz (by simp; omega)
          · rw [lit_nl, tx_app]; rfl
        · refine ⟨_, rfl, _, rfl, _, _, rfl, rfl, ⟨by decide, by decide⟩, _, rfl, ?_⟩
          refine ⟨_, _, rfl, rfl, ?_, rfl, l ++ [sign (c / 8)], some (.int c), ?_, by simp; omega, add _ (by have := sign_in (c / 8); omega)⟩
          · rw [tx_len, tx_len]; exact sz (by simp; omega)
          · rw [tx_app]; rfl
    · rintro σ H3 ⟨rfl, l, y, rfl, h1, h2⟩
      exact ⟨_, rfl, q l h1 h2⟩

def sp__law_cut : Sp := fun vs H Q _ => ∃ l : List Nat, vs = [vt l] ∧ l.length ≤ 1000000 ∧
  ∀ H' p, Same H H' → H p = none → H' p = some (.lst (vts (wcut [] l))) → Q (.ref p) H'
theorem ok__law_cut (A : At K mg "_law_cut" ["_law_signs"] st__law_cut) (T : Bts mg) : Ok P w K mg base CX0 1 "_law_cut" ["_law_signs"] sp__law_cut := by
  refine A.ok sc__law_cut (fun vs H Q E h => ?_) (fun f cdv A outer s H vs Q E hr h => ?_)
  · obtain ⟨l, rfl, _⟩ := h; rfl
  · obtain ⟨l, rfl, hl, q⟩ := h
    refine ⟨_, (pss_cons (ps_set (i := 1) sc__law_cut.nd rfl (Or.inl rfl) (pe_lst pa_nil))
      (pss_cons (ps_set (i := 2) sc__law_cut.nd rfl (Or.inl rfl) pe_str)
      (pss_cons (ps_for PassesOwn.never rfl (pi_str (pv 0)) (pg_name (i := 3) sc__law_cut.nd rfl (Or.inl rfl))
      (pss_one (ps_if (PW.pt (pw_and (pt_cmpR op_ne (pv 3) pe_str (nomark _)) (pw_and1 (pt_cmpR op_ne (pv 3) pe_str (nomark _))))) (pss_one (ps_set (i := 2) sc__law_cut.nd rfl (Or.inl rfl) (pe_op op_add_str (pv 2) (pv 3)))) (pss_one (ps_if (pt_cmpR op_ne (pv 2) pe_str (nomark _)) (pss_cons (ps_expr (pe_bm PySem.F.plainAttrs_list PySem.F.slot_list_append PySem.F.type_list_append mt_append (pv 1) (pa_cons (pv 2) pa_nil)))
      (pss_one (ps_set (i := 2) sc__law_cut.nd rfl (Or.inl rfl) pe_str))) pss_nil)))))
      (pss_cons (ps_if (pt_cmpR op_ne (pv 2) pe_str (nomark _)) (pss_one (ps_expr (pe_bm PySem.F.plainAttrs_list PySem.F.slot_list_append PySem.F.type_list_append mt_append (pv 1) (pa_cons (pv 2) pa_nil)))) pss_nil)
      (pss_one (ps_ret (pv 1))))))), ?_⟩
    refine ⟨Nat.zero_le _, fun o no => ?_⟩
    refine ⟨_, rfl, tx l, rfl, ?_⟩
    refine for_txt (l := l) (fun d r σ H3 => ∃ ws h y, σ = [some (vt l), some (.ref o), some (vt h), y] ∧ Same H H3 ∧
      H3 o = some (.lst (vts ws)) ∧ ws.length + r.length ≤ l.length + 2 ∧ h.length + r.length ≤ l.length + 1 ∧ ws ++ wcut h r = wcut [] l) ?_ ?_ ?_
    · refine ⟨[], [], none, ?_, (Same.refl H).new no, upd_same, by simp, by simp, rfl⟩
      rw [lit_nil]; rfl
    · rintro d c r σ H3 e ⟨ws, h, y, rfl, sm, eo, e1, e2, ew⟩
      simp only [List.length_cons] at e1 e2
      refine ⟨_, rfl, rfl, _, rfl, tsn (c := c = 32) (ne_sg lit_sp) (fun n1 => ?_) (fun n1 => ?_)⟩
      · refine ⟨_, rfl, rfl, _, rfl, tsn (c := c = 10) (ne_sg lit_nl) (fun n2 => ?_) (fun n2 => ?_)⟩
        · refine ⟨_, rfl, _, rfl, _, _, rfl, rfl, ?_, ws, h ++ [c], some (vt [c]), ?_, sm, eo, by omega, by simp; omega, ?_⟩
          · rw [tx_len, tx_len]; exact sz (by simp; omega)
          · rw [tx_app]; rfl
          · rw [← ew, wcut_s (by omega)]
        · refine ⟨_, rfl, rfl, _, rfl, tsn (c := h = []) (ne_vt lit_nil) (fun n3 => ?_) (fun n3 => ?_)⟩
          · refine ⟨_, rfl, .inl ⟨rfl, _, .inl (.inl eo)⟩, _, rfl, o, _, _, rfl, rfl, eo, ?_, ?_⟩
            · rw [List.length_map]; exact szl (by omega)
            · refine ⟨ws ++ [h], [], some (vt [c]), ?_, sm.put no, ?_, by simp; omega, by simp; omega, ?_⟩
              · rw [lit_nil]; rfl
              · rw [upd_same, vts_app]
              · rw [← ew, wcut_w n3 (by omega)]; simp
          · subst n3
            refine ⟨ws, [], some (vt [c]), rfl, sm, eo, by omega, by simp; omega, ?_⟩
            rw [← ew, wcut_b (by omega)]
      · refine ⟨_, rfl, rfl, _, rfl, tsn (c := h = []) (ne_vt lit_nil) (fun n3 => ?_) (fun n3 => ?_)⟩
        · refine ⟨_, rfl, .inl ⟨rfl, _, .inl (.inl eo)⟩, _, rfl, o, _, _, rfl, rfl, eo, ?_, ?_⟩
          · rw [List.length_map]; exact szl (by omega)
          · refine ⟨ws ++ [h], [], some (vt [c]), ?_, sm.put no, ?_, by simp; omega, by simp; omega, ?_⟩
            · rw [lit_nil]; rfl
            · rw [upd_same, vts_app]
            · rw [← ew, wcut_w n3 (by omega)]; simp
        · subst n3
          refine ⟨ws, [], some (vt [c]), rfl, sm, eo, by omega, by simp; omega, ?_⟩
          rw [← ew, wcut_b (by omega)]
    · rintro σ H3 ⟨ws, h, y, rfl, sm, eo, e1, e2, ew⟩
      refine ⟨_, rfl, rfl, _, rfl, tsn (c := h = []) (ne_vt lit_nil) (fun n3 => ?_) (fun n3 => ?_)⟩
      · refine ⟨_, rfl, .inl ⟨rfl, _, .inl (.inl eo)⟩, _, rfl, o, _, _, rfl, rfl, eo, ?_, ?_⟩
        · rw [List.length_map]; exact szl (by omega)
        · refine ⟨_, rfl, q _ o (sm.put no) no ?_⟩
          rw [upd_same, ← vts_app, ← ew, wcut_e n3]
      · subst n3
        rw [show wcut [] [] = [] from rfl, List.append_nil] at ew
        exact ⟨_, rfl, q H3 o sm no (by rw [eo, ew])⟩

def sp_law (K : PySem.W.Frag) : Sp := fun vs H Q _ => ∃ (a : Addr) (ns : List Int), vs = [.ref a] ∧ SqL K H a (vis ns) ∧ ns.length ≤ 63 ∧ ∀ H', Q (.bl true) H'
theorem body_law (T : Bts mg) (G__law_cell_at : Ok P w K mg base CX0 1 "_law_cell_at" ["_law_script", "_law_k"] (sp__law_cell_at K))
    (G__law_text_by : Ok P w K mg base CX0 2 "_law_text_by" ["_law_cells"] (sp__law_text_by K)) (G__law_cut : Ok P w K mg base CX0 1 "_law_cut" ["_law_signs"] sp__law_cut)
    (G__law_texts : Ok P w K mg base CX0 1 "_law_texts" ["_law_found", "_law_due"] (sp__law_texts K)) (G_words_of : Ok P w K mg base CX0 1 "words_of" ["text"] sp_words_of)
    (G_is_word : Ok P w K mg base CX0 1 "is_word" ["text"] sp_is_word)
    (f : Addr) (cdv : Value) (A : Around) (outer : List Env) (s : Shared) (H : Hp) (vs : List V) (Q : VK) (E : XK)
    (hr : Room 2 (A.deeper (envOfC "law" (defScope st_law) s.heap.objs.size f cdv))) (h : sp_law K vs H Q E) :
    ∃ t, PSs (cxOf CX0 P w K mg base N_law "law" (defScope st_law) f cdv A outer s H E).nox (defBody st_law) t ∧ t { nx := fun _ H' => Q .non H', rt := Q } (start N_law vs) H := by
  obtain ⟨a, ns, rfl, hS, hl, q⟩ := h
  refine ⟨_, (pss_cons (ps_set (i := 1) sc_law.nd rfl (Or.inl rfl) (pe_cd G__law_text_by (hr.mono (by decide)) pass0 (pa_cons (pe_slice sl_list (pv 0) (po_some pe_int) po_none) pa_nil)))
      (C8.pss_cut (ps_if (pt_cmpR op_eq (pe_op op_mod (pe_cd G__law_cell_at (hr.mono (by decide)) pass0 (pa_cons (pv 0) (pa_cons pe_int pa_nil))) pe_int) pe_int (nomark _)) (pss_one (ps_set (i := 1) sc_law.nd rfl (Or.inl rfl) (pe_op op_mulS (pv 1) pe_int))) pss_nil)
      (C8.pss_cut (ps_if (pt_cmpR op_eq (pe_op op_mod (pe_cd G__law_cell_at (hr.mono (by decide)) pass0 (pa_cons (pv 0) (pa_cons pe_int pa_nil))) pe_int) pe_int (nomark _)) (pss_one (ps_set (i := 1) sc_law.nd rfl (Or.inl rfl) (pe_join pe_str (pe_slice sl_list (pe_cd G__law_cut (hr.mono (by decide)) pass0 (pa_cons (pv 1) pa_nil)) po_none (po_some pe_int))))) pss_nil)
      (pss_cons (ps_if (pt_not (pt_val (pe_cd G__law_texts (hr.mono (by decide)) pass0 (pa_cons (pe_cd G_words_of (hr.mono (by decide)) pass0 (pa_cons (pv 1) pa_nil)) (pa_cons (pe_cd G__law_cut (hr.mono (by decide)) pass0 (pa_cons (pv 1) pa_nil)) pa_nil))))) (pss_one (ps_ret pe_bl)) pss_nil)
      (pss_cons (ps_set (i := 2) sc_law.nd rfl (Or.inl rfl) (pe_cd G_is_word (hr.mono (by decide)) pass0 (pa_cons (pv 1) pa_nil)))
      (pss_cons (ps_if (pt_cmpR (op_eqL hr) (pe_cd G__law_cut (hr.mono (by decide)) pass0 (pa_cons (pv 1) pa_nil)) (pe_lst (pa_cons (pv 1) pa_nil)) (nomark _)) (pss_one (ps_ret (pe_cmpR op_isBl (pv 2) pe_bl (nomark _)))) pss_nil)
      (pss_one (ps_ret (pe_cmpR op_isBl (pv 2) pe_bl (nomark _)))))))))), ?_⟩
  -- the text
  refine ⟨_, rfl, 1, rfl, a, _, rfl, hS, fun p np => ?_⟩
  have s1 : Same H (upd H p (.lst (cutV (vis ns) (some 1) none))) := (Same.refl H).new np
  generalize hH1 : upd H p (.lst (cutV (vis ns) (some 1) none)) = H1 at s1 ⊢
  have ep : H1 p = some (.lst (vis (ns.drop 1))) := by rw [← hH1, upd_same]; exact congrArg some (congrArg HO.lst (cut_from V.int ns 1))
  refine ⟨p, ns.drop 1, rfl, .of ep, by simp; omega, fun l l1 l2 => ?_⟩
  have l1' : l.length ≤ 63 := by simp at l1; omega
  have hS1 : SqL K H1 a (vis ns) := s1.seq hS
  -- * 5
  refine ⟨fun σ H' => ∃ l, σ = [some (.ref a), some (vt l), none] ∧ Same H H' ∧ l.length ≤ 315 ∧ plainTx l, ?_, ?_⟩
  · refine ⟨_, rfl, a, ns, 0, rfl, hS1, _, _, rfl, rfl, (show (0 : Int) < 4 by decide), rfl, _, rfl, tst (c := cell ns 0 % 4 = 1) dec_vi (fun n1 => ?_) (fun n1 => ?_)⟩
    · refine ⟨_, rfl, l, 5, rfl, rfl, by decide, by decide, sz (by simp; omega), _, rfl, s1, ?_, ?_⟩
      · rw [List.length_flatten, List.map_replicate, List.sum_replicate_nat]; simp; omega
      · intro c hc
        obtain ⟨x, hx, hc⟩ := List.mem_flatten.mp hc
        rw [(List.mem_replicate.mp hx).2] at hc
        exact l2 c hc
    · exact ⟨l, rfl, s1, by omega, l2⟩
  rintro σ H2 ⟨l, rfl, s2, l3, l4⟩
  have hS2 : SqL K H2 a (vis ns) := s2.seq hS
  refine ⟨fun σ H' => ∃ l, σ = [some (.ref a), some (vt l), none] ∧ Same H H' ∧ l.length ≤ 315 ∧ plainTx l, ?_, ?_⟩
  · refine ⟨_, rfl, a, ns, 0, rfl, hS2, _, _, rfl, rfl, (show (0 : Int) < 4 by decide), rfl, _, rfl, tst (c := cell ns 0 % 4 = 2) dec_vi (fun n1 => ?_) (fun n1 => ?_)⟩
    · refine ⟨⟨_, rfl⟩, _, rfl, l, rfl, by omega, fun H3 o s3 n3 e3 => ?_⟩
      refine ⟨1, rfl, o, _, rfl, .of e3, fun p2 np2 => ?_⟩
      have e1 : cutV (vts (wcut [] l)) none (some 1) = vts ((wcut [] l).take 1) := cut_to vt (wcut [] l) 1
      have lw := wcut_length l []
      refine ⟨_, p2, ((wcut [] l).take 1).map tx, rfl, rfl, .inl (.of (by rw [upd_same, e1, List.map_map]; rfl)), ?_, ?_⟩
      · rw [lit_nil]
        have h1 : ((((wcut [] l).take 1).map tx).map (·.length)).sum ≤ 315 := by
          cases hw : wcut [] l with
          | nil => simp
          | cons x r =>
            have := wcut_total l []
            rw [hw] at this
            simp [total] at this
            simp [tx_len]
            omega
        have h2 : (((wcut [] l).take 1).map tx).length ≤ 1 := by simp; omega
        rw [tx_len]
        simp only [List.length_nil, Nat.mul_zero]
        omega
      · rw [lit_nil, join_tx]
        refine ⟨_, rfl, (s2.trans s3).new np2, ?_, ?_⟩
        · cases hw : wcut [] l with
          | nil => simp [jn]
          | cons x r =>
            have := wcut_total l []
            rw [hw] at this
            simp [total] at this
            simp [jn]
            omega
        · intro c hc
          cases hw : wcut [] l with
          | nil => rw [hw] at hc; cases hc
          | cons x r =>
            rw [hw] at hc
            rcases wcut_mem l [] (x := x) (by rw [hw]; exact List.mem_cons_self) hc with z | z
            · cases z
            · exact l4 c z.1
    · exact ⟨l, rfl, s2, l3, l4⟩
  rintro σ H3 ⟨l, rfl, s3, l5, l6⟩
  have fw : ∀ x ∈ wcut [] l, plainTx x := fun x hx c hc => by
    rcases wcut_mem l [] hx hc with z | z
    · cases z
    · exact l6 c z.1
  have lw := wcut_length l []
  -- words_of against the law's own cut
  refine ⟨_, rfl, l, rfl, by omega, fun H4 o4 s4 n4 e4 => ?_⟩
  refine ⟨_, rfl, l, rfl, by omega, fun H5 o5 s5 n5 e5 => ?_⟩
  refine ⟨o4, o5, _, rfl, s5 _ _ e4, .of e5, by omega, true, rfl, iteF ?_⟩
  refine ⟨_, rfl, l, rfl, by omega, ?_⟩
  -- one word
  refine ⟨_, rfl, l, rfl, by omega, fun H6 o6 s6 n6 e6 => ?_⟩
  refine ⟨_, rfl, sz (by simp), fun p7 n7 => ?_⟩
  refine ⟨o6, p7, _, [vt l], rfl, rfl, .of (kept e6 n7), .of upd_same, flat_vts fw, ?_, _, rfl, ?_⟩
  · exact flat_vts (ws := [l]) (fun x hx => by rw [List.mem_singleton.mp hx]; exact l6)
  · have key : decide (vts (wcut [] l) = [vt l]) = decide (l ≠ [] ∧ 32 ∉ l ∧ 10 ∉ l) := by
      rw [show ([vt l] : List V) = vts [l] from rfl]
      by_cases z : wcut [] l = [l]
      · rw [z, decide_eq_true rfl, decide_eq_true ((one_word l).mp z)]
      · rw [decide_eq_false (fun y => z (vts_inj y)), decide_eq_false (fun y => z ((one_word l).mpr y))]
    refine tst (c := l ≠ [] ∧ 32 ∉ l ∧ 10 ∉ l) key (fun z => ?_) (fun z => ?_)
    · refine ⟨_, rfl, _, _, rfl, rfl, ?_⟩
      rw [decide_eq_true z]
      exact q _
    · refine ⟨_, rfl, _, _, rfl, rfl, ?_⟩
      rw [decide_eq_false z]
      exact q _

end
theorem all_mk {P : Program} {w : World} {K : PySem.W.Frag} {mg : Str → Option Value} {fa : Addr} (T : Bts mg)
    (A_words_of : At K mg "words_of" ["text"] st_words_of)
    (A_is_word : At K mg "is_word" ["text"] st_is_word)
    (A__law_cell_at : At K mg "_law_cell_at" ["_law_script", "_law_k"] st__law_cell_at)
    (A__law_sign_by : At K mg "_law_sign_by" ["_law_cell"] st__law_sign_by)
    (A__law_texts : At K mg "_law_texts" ["_law_found", "_law_due"] st__law_texts)
    (A__law_text_by : At K mg "_law_text_by" ["_law_cells"] st__law_text_by)
    (A__law_cut : At K mg "_law_cut" ["_law_signs"] st__law_cut)
    (A_law : LawAt K fa "law" "_law_script" st_law) :
    ∃ fd : FuncData, (∀ (s : Shared) (v : Value), BindsTo s fd ⟨[v], []⟩ [("_law_script", v)]) ∧ ∀ base : Heap, K.In base → base.Ns mainGlobals mg → FnOk P w K mg base CX0 3 fa fd ["_law_script"] (sp_law K) := by
  obtain ⟨fd, hb, F⟩ := A_law.ex
  refine ⟨fd, hb, fun base _ _ => ?_⟩
  have O_words_of := ok_words_of (P := P) (w := w) (base := base) A_words_of T
  have O_is_word := ok_is_word (P := P) (w := w) (base := base) A_is_word T
  have O__law_cell_at := ok__law_cell_at (P := P) (w := w) (base := base) A__law_cell_at T
  have O__law_sign_by := ok__law_sign_by (P := P) (w := w) (base := base) A__law_sign_by T
  have O__law_texts := ok__law_texts (P := P) (w := w) (base := base) A__law_texts T
  have O__law_text_by := ok__law_text_by (P := P) (w := w) (base := base) A__law_text_by T O__law_sign_by
  have O__law_cut := ok__law_cut (P := P) (w := w) (base := base) A__law_cut T
  refine F.ok sc_law (fun vs H Q E h => ?_) (fun cdv A outer s H vs Q E hr h => body_law T O__law_cell_at O__law_text_by O__law_cut O__law_texts O_words_of O_is_word fa cdv A outer s H vs Q E hr h)
  obtain ⟨a, ns, rfl, _⟩ := h; rfl
end Tw
open PySem PySem.W PyProof.Rows
set_option maxHeartbeats 0 in
theorem PySem.Challenge.cw_textwrapper_k01_words_cut_holds : PySem.Challenge.rw_textwrapper_k01_words_cut.Holds := by
  w_on; o_law; k_head; (case hw => w_witness2)
  k_fill
  refine L2.walk_of (l := PySem.Challenge.rw_textwrapper_k01_words_cut) (n := 63) (k := 3) (x := "_law_script") (CX := fun _ => L2.CX0) (sp := fun w => Tw.sp_law _) rfl (by decide) rfl ⟨rfl, by decide, by decide⟩ (fun w h Y => PySem.W.kIn_of Y) ?F (fun _ _ a ns hl _ hS => ⟨a, ns, rfl, hS, hl, fun _ => rfl⟩) (fun _ _ _ _ _ h => h)
  case F =>
    intro w mg fa h KX G hmg
    refine' Tw.all_mk ?T ?A_words_of ?A_is_word ?A__law_cell_at ?A__law_sign_by ?A__law_texts ?A__law_text_by ?A__law_cut ?A_law
    case T =>
      refine' Tw.bts_mk KX G ?z1 ?z2 ?z3 ?z4 ?z5 ?z6 ?z7 ?z8 ?z9 ?z10 ?z11 ?z12
      (case z1 => k_is); (case z2 => k_is); (case z3 => k_is); (case z4 => k_is); (case z5 => k_is); (case z6 => k_is); (case z7 => k_is); (case z8 => k_is); (case z9 => k_is); (case z10 => k_is); (case z11 => k_is); (case z12 => k_is)
    case A_words_of =>
      refine' Tw.at_mk KX G ?a ?l ?c ?k ?b
      (case a => k_is); (case l => k_is); (case c => k_is); (case k => k_is)
      (case b => exact fun _ _ _ _ _ _ us hl => match us, hl with | [_], _ => rfl)
    case A_is_word =>
      refine' Tw.at_mk KX G ?a ?l ?c ?k ?b
      (case a => k_is); (case l => k_is); (case c => k_is); (case k => k_is)
      (case b => exact fun _ _ _ _ _ _ us hl => match us, hl with | [_], _ => rfl)
    case A__law_cell_at =>
      refine' Tw.at_mk KX G ?a ?l ?c ?k ?b
      (case a => k_is); (case l => k_is); (case c => k_is); (case k => k_is)
      (case b => exact fun _ _ _ _ _ _ us hl => match us, hl with | [_, _], _ => rfl)
    case A__law_sign_by =>
      refine' Tw.at_mk KX G ?a ?l ?c ?k ?b
      (case a => k_is); (case l => k_is); (case c => k_is); (case k => k_is)
      (case b => exact fun _ _ _ _ _ _ us hl => match us, hl with | [_], _ => rfl)
    case A__law_texts =>
      refine' Tw.at_mk KX G ?a ?l ?c ?k ?b
      (case a => k_is); (case l => k_is); (case c => k_is); (case k => k_is)
      (case b => exact fun _ _ _ _ _ _ us hl => match us, hl with | [_, _], _ => rfl)
    case A__law_text_by =>
      refine' Tw.at_mk KX G ?a ?l ?c ?k ?b
      (case a => k_is); (case l => k_is); (case c => k_is); (case k => k_is)
      (case b => exact fun _ _ _ _ _ _ us hl => match us, hl with | [_], _ => rfl)
    case A__law_cut =>
      refine' Tw.at_mk KX G ?a ?l ?c ?k ?b
      (case a => k_is); (case l => k_is); (case c => k_is); (case k => k_is)
      (case b => exact fun _ _ _ _ _ _ us hl => match us, hl with | [_], _ => rfl)
    case A_law =>
      refine' Tw.lawat_mk KX G hmg ?a ?l ?c ?k ?b
      (case a => k_is); (case l => k_is); (case c => k_is); (case k => k_is)
      (case b => exact fun _ _ _ _ _ _ s v => .of_eq rfl)
