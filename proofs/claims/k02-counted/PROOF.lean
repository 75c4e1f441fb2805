import PyProof.Rows.All
import Wide.All
import OpenK.AllK
import Wide.FinOn
import HandS.ForMost
import HandS.ForExc
import HandS.Evl
import HandS.Walk
import HandS.IsInst
import HandS.StrMore
import HandS.EndBits
import HandS.Wide
import HandS.Codes
import HandS.Style
import HandS.Conv
import HandS.Deep
import HandS.SortOrd
import HandS.SortRule
import HandS.SortInts
import HandS.More
import PySem.Challenge.RW_wordpieces_k02_whole_counted
set_option Elab.async false
set_option linter.all false
set_option maxRecDepth 100000
set_option maxHeartbeats 8000000
namespace WP
open PySem PySem.Spec PyProof.Rows L2 Evl
open SX (S S_len S_cat S_inj S_tl)

/-! ### defs of the top that are called -/
/-- the def named x stands in the module and keeps the promise sp -/
structure Cal (P : Program) (w : World) (K : PySem.W.Frag) (mg : Str → Option Value) (base : Heap) (k : Nat) (x : Str) (ps : List Str) (sp : Sp) : Prop where
  ex : ∃ (f : Addr) (fd : FuncData), FnOk P w K mg base (L2.CX P w) k f fd ps sp ∧ mg x = some (.ref f) ∧ PySem.W.keepIn K (.ref f) = true ∧ Binds K fd ps []
theorem pe_cal {X : Cx} {k : Nat} {ps : List Str} {sp : Sp} {E : XK} {x : Str} {p pos : Pos} {e : Expr} {es : List Expr} {t : TA} (C : Cal X.prog X.w X.K X.mg X.base k x ps sp) (hr : Room k X.A) (hg : Gl X x) (hx : Passes (L2.CX X.prog X.w) X E) (ha : PA X (e :: es) t)
    (hdb : (x == ("__debug__" : Str)) = false := by decide) (he : starEach (e :: es) X.env = (false, eval e X.env) :: starEach es X.env := by rfl) (hpl : (backTo pos (starEach es X.env)).any (·.1) = false := by rfl) :
    PE X (.Call (.Name x p) (e :: es) [] pos) (tCall sp [] E t) := by
  obtain ⟨f, fd, F, hm, hk, hb⟩ := C.ex
  exact pe_call F hr hg hm hk hb .nil hx ha hdb he hpl

/-- the built-in names are not hidden -/
structure Bl (mg : Str → Option Value) : Prop where
  len : mg "len" = none
  range : mg "range" = none
  isinstance : mg "isinstance" = none
  str_ : mg "str" = none
  int_ : mg "int" = none
  bool_ : mg "bool" = none
  list_ : mg "list" = none
  all_ : mg "all" = none
  any_ : mg "any" = none
  zip : mg "zip" = none
  sorted : mg "sorted" = none
  sum_ : mg "sum" = none
  set_ : mg "set" = none
  enumerate : mg "enumerate" = none
  tuple_ : mg "tuple" = none
  max_ : mg "max" = none
  min_ : mg "min" = none
  abs_ : mg "abs" = none

/-- an own error class straight under another of them, at C -/
structure Er (K : PySem.W.Frag) (mg : Str → Option Value) (x : Str) (C : Addr) (bm : List Value) : Prop where
  g : mg x = some (.ref C)
  x : PySem.W.excIn K C bm "ValueError.__new__" = true
  k : PySem.W.keepIn K (.ref C) = true
  b : PySem.W.subIn K (.ref C) (.type "BaseException") = some true
  t : PySem.W.typeIn K (.ref C) = some (.type "type")

/-! ### great numbers -/
def CMulV (i j : Int) : Prop := i.natAbs.log2 + j.natAbs.log2 < 100000000
theorem CMulV.ok {i j : Int} (h : CMulV i j) : IntMulOk i j := by
  have b : ∀ x : Int, Builtin.Int.intBits x ≤ x.natAbs.log2 + 1 := fun x => by
    unfold Builtin.Int.intBits
    split <;> omega
  have h1 := b i
  have h2 := b j
  have h3 : i.natAbs.log2 + j.natAbs.log2 < 100000000 := h
  have e : bitsLine = 134217728 := by decide
  unfold IntMulOk
  intro z
  rw [Bool.and_eq_true] at z
  have z2 := z.2
  unfold Builtin.Int.intTooBig at z2
  have z3 := of_decide_eq_true z2
  rw [e] at z3
  omega
theorem op_mulV {X : Cx} : OpR X (binaryOp .Mult) (rI CMulV fun i j => .int (i * j)) := opI fun _ _ _ _ _ _ _ hc q => mul_int q hc.ok
/-- a number of at most n bits -/
def Lim (n : Nat) (i : Int) : Prop := ∃ a : Nat, 0 < a ∧ a ≤ n ∧ i.natAbs < 2 ^ a
theorem Lim.log {n : Nat} {i : Int} (h : Lim n i) : i.natAbs.log2 < n := by
  obtain ⟨a, h0, h1, h2⟩ := h
  exact Nat.lt_of_lt_of_le (PySem.Flt.log2_lt_of h0 h2) h1
theorem Lim.add {n : Nat} {i j : Int} (h : Lim n i) (g : Lim n j) : Lim (n + 1) (i + j) := by
  obtain ⟨a, h0, h1, h2⟩ := h
  obtain ⟨b, g0, g1, g2⟩ := g
  refine ⟨n + 1, by omega, Nat.le_refl _, ?_⟩
  have p1 : 2 ^ a ≤ 2 ^ n := Nat.pow_le_pow_right (by decide) h1
  have p2 : 2 ^ b ≤ 2 ^ n := Nat.pow_le_pow_right (by decide) g1
  rw [Nat.pow_succ]
  have : (i + j).natAbs ≤ i.natAbs + j.natAbs := Int.natAbs_add_le i j
  omega
theorem Lim.mono {n m : Nat} {i : Int} (h : Lim n i) (g : n ≤ m) : Lim m i := by
  obtain ⟨a, h0, h1, h2⟩ := h
  exact ⟨a, h0, by omega, h2⟩
theorem Lim.mul {n m : Nat} {i j : Int} (h : Lim n i) (g : Lim m j) : Lim (n + m) (i * j) := by
  obtain ⟨a, h0, h1, h2⟩ := h
  obtain ⟨b, g0, g1, g2⟩ := g
  exact ⟨a + b, by omega, by omega, wide_lt h2 g2⟩
theorem Lim.small {i : Int} (h1 : -1000000000 ≤ i) (h2 : i ≤ 1000000000) : Lim 30 i := ⟨30, by decide, by decide, by
  have : (2 : Nat) ^ 30 = 1073741824 := by decide
  omega⟩
theorem Lim.mulOk {n m : Nat} {i j : Int} (h : Lim n i) (g : Lim m j) (z : n + m ≤ 100000000) : CMulV i j := by
  have a := h.log
  have b := g.log
  unfold CMulV
  omega
theorem Lim.of_bits {i : Int} (h : Builtin.Int.intBits i ≤ 1048576) : Lim 1048577 i := by
  refine ⟨i.natAbs.log2 + 1, by omega, ?_, Nat.lt_log2_self⟩
  unfold Builtin.Int.intBits at h
  split at h
  · rename_i e
    have z : i.natAbs = 0 := by
      first
        | (have := of_decide_eq_true e; omega)
        | (simp at e; omega)
    rw [z, show Nat.log2 0 = 0 by decide]
    decide
  · omega

/-! ### values of texts -/
theorem rv_str2 {f : Str → Str → V} {C : Str → Str → Prop} {a b : Str} {H : Hp} (hc : C a b) : RV (fun x y H Q => ∃ i j, x = .str i ∧ y = .str j ∧ C i j ∧ Q (f i j) H) (.str a) (.str b) H (f a b) := fun H1 _ _ q => ⟨a, b, rfl, rfl, hc, q H1 (Ex.refl H1)⟩
theorem rv_str2' {f : Str → Str → V} {a b : Str} {H : Hp} : RV (fun x y H Q => ∃ i j, x = .str i ∧ y = .str j ∧ Q (f i j) H) (.str a) (.str b) H (f a b) := fun H1 _ _ q => ⟨a, b, rfl, rfl, q H1 (Ex.refl H1)⟩
/-- s + t -/
theorem rv_addS {a b : List Nat} {H : Hp} (h : a.length + b.length ≤ 1000000) : RV (fun x y H Q => ∃ i j, x = .str i ∧ y = .str j ∧ i.length + j.length ≤ sizeLine ∧ Q (.str (i ++ j)) H) (.str (S a)) (.str (S b)) H (.str (S (a ++ b))) := by
  rw [← S_cat]
  refine rv_str2 (f := fun i j => .str (i ++ j)) (C := fun i j => i.length + j.length ≤ sizeLine) ?_
  rw [S_len, S_len]
  exact Nat.le_trans h (by decide)
theorem dec_S {a b : List Nat} : decide (V.str (S a) = V.str (S b)) = decide (a = b) := by
  rw [Bool.eq_iff_iff]
  simp only [decide_eq_true_eq]
  exact ⟨fun h => S_inj (V.str.inj h), fun h => by rw [h]⟩
theorem rv_eqS {a b : List Nat} {H : Hp} : RV rEq (.str (S a)) (.str (S b)) H (.bl (decide (a = b))) := by
  rw [← dec_S]
  exact rv_eq rfl
theorem rv_neS {a b : List Nat} {H : Hp} : RV rNe (.str (S a)) (.str (S b)) H (.bl (!decide (a = b))) := by
  rw [← dec_S]
  exact rv_ne rfl
theorem dec_I {a b : Int} : decide (V.int a = V.int b) = decide (a = b) := by
  rw [Bool.eq_iff_iff]
  simp only [decide_eq_true_eq]
  exact ⟨fun h => V.int.inj h, fun h => by rw [h]⟩
theorem rv_eqI {a b : Int} {H : Hp} : RV rEq (.int a) (.int b) H (.bl (decide (a = b))) := by
  rw [← dec_I]
  exact rv_eq rfl
theorem rv_neI {a b : Int} {H : Hp} : RV rNe (.int a) (.int b) H (.bl (!decide (a = b))) := by
  rw [← dec_I]
  exact rv_ne rfl
/-- l[lo:hi] -/
def cut (l : List Nat) (lo hi : Option Int) : List Nat := (l.drop (HT.sIx l.length 0 lo)).take (HT.sIx l.length l.length hi - HT.sIx l.length 0 lo)
theorem cutS_S (l : List Nat) (lo hi : Option Int) : cutS (S l) lo hi = S (cut l lo hi) := by
  unfold cutS cut
  rw [S_len]
theorem cut_len (l : List Nat) (lo hi : Option Int) : (cut l lo hi).length ≤ l.length := by
  unfold cut
  rw [List.length_take, List.length_drop]
  omega
theorem cut_mem {l : List Nat} {lo hi : Option Int} {c : Nat} (h : c ∈ cut l lo hi) : c ∈ l := List.mem_of_mem_drop (List.mem_of_mem_take h)
theorem cut_from (l : List Nat) (i : Nat) : cut l (some (i : Int)) none = l.drop i := by
  unfold cut
  rw [HT.sIx_nat, HT.sIx_none]
  by_cases h : i ≤ l.length
  · rw [Nat.min_eq_left h, List.take_of_length_le (by rw [List.length_drop]; omega)]
  · rw [Nat.min_eq_right (by omega), List.drop_of_length_le (Nat.le_refl _), List.drop_of_length_le (by omega), List.take_nil]
theorem cut_to (l : List Nat) (i : Nat) : cut l none (some (i : Int)) = l.take i := by
  unfold cut
  rw [HT.sIx_nat, HT.sIx_none, List.drop_zero, Nat.sub_zero]
  by_cases h : i ≤ l.length
  · rw [Nat.min_eq_left h]
  · rw [Nat.min_eq_right (by omega), List.take_of_length_le (Nat.le_refl _), List.take_of_length_le (by omega)]
theorem cut_mid (l : List Nat) (i j : Nat) : cut l (some (i : Int)) (some (j : Int)) = (l.drop i).take (j - i) := by
  unfold cut
  rw [HT.sIx_nat, HT.sIx_nat]
  by_cases h : i ≤ l.length
  · rw [Nat.min_eq_left h]
    by_cases g : j ≤ l.length
    · rw [Nat.min_eq_left g]
    · rw [Nat.min_eq_right (by omega), List.take_of_length_le (by rw [List.length_drop]; omega), List.take_of_length_le (by rw [List.length_drop]; omega)]
  · rw [Nat.min_eq_right (show l.length ≤ i by omega), List.drop_of_length_le (Nat.le_refl _), List.drop_of_length_le (show l.length ≤ i by omega), List.take_nil, List.take_nil]
theorem cut_last (l : List Nat) : cut l none (some (-1)) = l.dropLast := by
  unfold cut
  rw [HT.sIx_none, List.drop_zero, Nat.sub_zero, List.dropLast_eq_take]
  congr 1
  show (if (-1 : Int) < 0 then ((-1 : Int) + (l.length : Int)).toNat else min (-1 : Int).toNat l.length) = l.length - 1
  rw [if_pos (by decide)]
  omega
section
variable {K : PySem.W.Frag} {σ : L2.St} {H H' : Hp} {ta tb te tx : TE} {t u : TT} {x y z v : V} {r : R2}
theorem ev_slS {tl th : TO} {l : List Nat} {lo hi : Option Int} (h : Ev te σ H (.str (S l))) (h1 : EvO tl σ H lo) (h2 : EvO th σ H hi) (hl : l.length ≤ 1000000) : Ev (tSl rSlS te tl th) σ H (.str (S (cut l lo hi))) := fun H1 e _ q =>
  h H1 e _ fun H2 e2 => h1 H2 (e.trans e2) _ fun H3 e3 => h2 H3 ((e.trans e2).trans e3) _ fun H4 e4 =>
    ⟨S l, rfl, by rw [S_len]; exact Nat.le_trans hl (by decide), by rw [cutS_S]; exact q H4 ((e2.trans e3).trans e4)⟩
def rLenStr : List V → Hp → VK → Prop := fun xs H Q => ∃ z, xs = [.str z] ∧ z.length ≤ sizeLine ∧ Q (.int z.length) H
theorem ev_lenS {l : List Nat} (h : Ev ta σ H (.str (S l))) (hl : l.length ≤ 1000000) : Ev (tCB (fun xs H Q => ∃ z, xs = [.str z] ∧ z.length ≤ sizeLine ∧ Q (.int z.length) H) (tCons ta tNil)) σ H (.int (l.length : Int)) := fun H1 e Q q =>
  h H1 e _ fun H2 e2 => ⟨S l, rfl, by rw [S_len]; exact Nat.le_trans hl (by decide), by rw [S_len]; exact q H2 e2⟩
theorem rv_ixS' {l : List Nat} {i : Int} {c : Nat} (hl : l.length ≤ 100000) (ha : atI l i = some c) : RV rIxS (.str (S l)) (.int i) H (.str (S [c])) := fun H1 _ _ q => ⟨S l, i, c, rfl, rfl, by rw [S_len]; exact sz_of hl, ha, q H1 (Ex.refl H1)⟩
/-- a built-in's method by values -/
def RM (r : V → List V → Hp → VK → Prop) (x : V) (vs : List V) (H : Hp) (z : V) : Prop := ∀ H1, Ex H H1 → ∀ Q : VK, (∀ H2, Ex H1 H2 → Q z H2) → r x vs H1 Q
theorem ev_bm {T : String} {r : V → List V → Hp → VK → Prop} {t : TA} {vs : List V} (h : Ev ta σ H x) (hT : ∀ H1, Ex H H1 → tyV K T x H1) (ha : EvA t σ H vs) (hr : RM r x vs H z) : Ev (tBM K T r ta t) σ H z := fun H1 e Q q =>
  h H1 e _ fun H2 e2 => ⟨hT H2 (e.trans e2), ha H2 (e.trans e2) _ fun H3 e3 => hr H3 ((e.trans e2).trans e3) Q fun H4 e4 => q H4 ((e2.trans e3).trans e4)⟩
/-- any value with a property -/
def EvQ (te : TE) (σ : L2.St) (H : Hp) (P : V → Prop) : Prop := ∀ H1, Ex H H1 → ∀ Q : VK, (∀ v H2, P v → Ex H1 H2 → Q v H2) → te σ H1 Q
def SpQ (sp : Sp) (vs : List V) (H : Hp) (P : V → Prop) : Prop := ∀ H1, Ex H H1 → ∀ Q : VK, (∀ v H2, P v → Ex H1 H2 → Q v H2) → ∀ E : XK, sp vs H1 Q E
theorem EvQ.mono {P : V → Prop} (e : Ex H H') (h : EvQ te σ H P) : EvQ te σ H' P := fun H1 a Q q => h H1 (e.trans a) Q q
theorem EvQ.imp {P P' : V → Prop} (h : EvQ te σ H P) (i : ∀ v, P v → P' v) : EvQ te σ H P' := fun H1 e Q q => h H1 e Q fun v H2 p e2 => q v H2 (i v p) e2
theorem Ev.toQ {P : V → Prop} (h : Ev te σ H v) (p : P v) : EvQ te σ H P := fun H1 e Q q => h H1 e Q fun H2 e2 => q v H2 p e2
theorem eq_call {sp : Sp} {dvs vs : List V} {E : XK} {ta : TA} {P : V → Prop} (h : EvA ta σ H vs) (hs : SpQ sp (vs ++ dvs) H P) : EvQ (tCall sp dvs E ta) σ H P := fun H1 e Q q =>
  h H1 e _ fun H2 e2 => hs H2 (e.trans e2) Q (fun v H3 p e3 => q v H3 p (e2.trans e3)) E
/-- an operation whose second operand is told by a property -/
theorem eq_op2 {P P2 : V → Prop} (ha : Ev ta σ H x) (hb : EvQ tb σ H P2) (hr : ∀ y, P2 y → ∃ z, P z ∧ RV r x y H z) : EvQ (tOp r ta tb) σ H P := fun H1 e Q q =>
  ha H1 e _ fun H2 e2 => hb H2 (e.trans e2) _ fun y H3 p e3 => by
    obtain ⟨z, pz, h⟩ := hr y p
    exact h H3 ((e.trans e2).trans e3) Q fun H4 e4 => q z H4 pz ((e2.trans e3).trans e4)
theorem eq_op1 {P P1 : V → Prop} (ha : EvQ ta σ H P1) (hb : Ev tb σ H y) (hr : ∀ x, P1 x → ∃ z, P z ∧ RV r x y H z) : EvQ (tOp r ta tb) σ H P := fun H1 e Q q =>
  ha H1 e _ fun x H2 p e2 => hb H2 (e.trans e2) _ fun H3 e3 => by
    obtain ⟨z, pz, h⟩ := hr x p
    exact h H3 ((e.trans e2).trans e3) Q fun H4 e4 => q z H4 pz ((e2.trans e3).trans e4)
variable {D : Ends} {tu tw tz : TS} {g : TG}
theorem s_asgQ {i : Nat} {P : V → Prop} (h : EvQ te σ H P) (k : ∀ v H1, P v → Ex H H1 → D.nx (σ.set i (some v)) H1) : tAsg te (gName i) D σ H := h H (Ex.refl H) _ fun v H1 p e => k v H1 p e
theorem q_asgQ {i : Nat} {P : V → Prop} (h : EvQ te σ H P) (k : ∀ v H1, P v → Ex H H1 → tz D (σ.set i (some v)) H1) : tSeq (tAsg te (gName i)) tz D σ H := s_asgQ (D := { D with nx := tz D }) h k
theorem s_retQ {P : V → Prop} (h : EvQ te σ H P) (k : ∀ v H1, P v → Ex H H1 → D.rt v H1) : tRet te D σ H := h H (Ex.refl H) _ fun v H1 p e => k v H1 p e
end
/-! ### s * n -/
theorem rep_S (l : List Nat) (n : Nat) : (⟨(List.replicate n (S l).cps).foldl (· ++ ·) #[]⟩ : Str) = S ((List.replicate n l).flatten) := by
  have h : ∀ (n : Nat) (acc : List Nat), (List.replicate n (S l).cps).foldl (· ++ ·) acc.toArray = (acc ++ (List.replicate n l).flatten).toArray := by
    intro n
    induction n with
    | zero => intro acc; simp
    | succ n ih =>
      intro acc
      rw [List.replicate_succ, List.foldl_cons, List.replicate_succ, List.flatten_cons, ← List.append_assoc, ← ih]
      congr 1
      simp
  have := h n []
  rw [List.nil_append] at this
  rw [this]
def rMulS : R2 := fun x y H Q => ∃ (l : List Nat) (n : Nat), x = .str (S l) ∧ y = .int (n : Int) ∧ l.length * n ≤ 1000000 ∧ n ≤ 1000000 ∧ Q (.str (S ((List.replicate n l).flatten))) H
theorem op_mul_str {X : Cx} : OpR X (binaryOp .Mult) rMulS := by
  intro pins s σ H x y v u Q I rx ry h
  obtain ⟨l, n, rfl, rfl, hl, hn, q⟩ := h
  obtain ⟨t, rfl⟩ := rx
  obtain ⟨t2, rfl⟩ := ry
  have hz : l.length * n ≤ sizeLine := Nat.le_trans hl (by decide)
  refine PySem.P.mul_str ?_ ?_ ?_ ?_
  · rw [decide_eq_false (by omega), decide_eq_false (by omega)]; rfl
  · intro h1 _
    rw [S_len]
    have e : ((2 : Int) ^ 63 - 1) / (n : Int) ≥ l.length := by
      apply Int.le_ediv_of_mul_le (by omega)
      have : ((l.length * n : Nat) : Int) ≤ 1000000 := by omega
      rw [Int.natCast_mul] at this
      omega
    omega
  · intro _ _
    rw [S_len, Int.toNat_natCast]
    unfold Builtin.Str.tooLong
    simp
    omega
  · by_cases h1 : (n : Int) < 1
    · have e : n = 0 := by omega
      subst e
      rw [if_pos h1]
      exact ⟨by decide, .str (S []), H, I.tok _, ⟨_, rfl⟩, q⟩
    · rw [if_neg h1]
      by_cases h2 : (((n : Int) == 1) || ((S l).length == 0)) = true
      · rw [if_pos h2]
        have e : (List.replicate n l).flatten = l := by
          rw [Bool.or_eq_true] at h2
          rcases h2 with h2 | h2
          · have : n = 1 := by have := eq_of_beq h2; omega
            subst this
            simp
          · rw [S_len] at h2
            have : l = [] := List.eq_nil_of_length_eq_zero (eq_of_beq h2)
            subst this
            simp
        rw [e] at q
        exact ⟨.str (S l), H, I, ⟨_, rfl⟩, q⟩
      · rw [if_neg h2, Int.toNat_natCast, rep_S]
        refine ⟨?_, .str _, H, I.tok _, ⟨_, rfl⟩, q⟩
        rw [S_len, List.length_flatten]
        simp
        rw [Nat.mul_comm]
        exact hz
theorem rv_mulS {l : List Nat} {n : Nat} {H : Hp} (h : l.length * n ≤ 1000000) (h2 : n ≤ 1000000) : RV rMulS (.str (S l)) (.int (n : Int)) H (.str (S ((List.replicate n l).flatten))) := fun H1 _ _ q => ⟨l, n, rfl, rfl, h, h2, q H1 (Ex.refl H1)⟩
end WP
namespace WP
open PySem PySem.Spec PyProof.Rows L2 Evl
open SX (S S_len S_cat S_inj S_tl)
/-! ### kinds of things -/
/-- what may be handed in, with its type's name -/
inductive Thing (H : Hp) : V → String → Prop where
  | non : Thing H .non "NoneType"
  | bl (b : Bool) : Thing H (.bl b) "bool"
  | int (i : Int) : Thing H (.int i) "int"
  | str (l : List Nat) (h : l.length ≤ 1000000) : Thing H (.str (S l)) "str"
  | lst {a : Addr} {xs : List V} (e : H a = some (.lst xs)) : Thing H (.ref a) "list"
  | tup {a : Addr} {xs : List V} (e : H a = some (.tup xs)) : Thing H (.ref a) "tuple"
  | dK {a : Addr} {kvs : List (Key × V)} (e : H a = some (.dK kvs)) : Thing H (.ref a) "dict"
theorem Thing.ex {H H' : Hp} {v : V} {n : String} (e : Ex H H') (h : Thing H v n) : Thing H' v n := by
  cases h with
  | non => exact .non
  | bl b => exact .bl b
  | int i => exact .int i
  | str l h => exact .str l h
  | lst q => exact .lst (e _ _ q)
  | tup q => exact .tup (e _ _ q)
  | dK q => exact .dK (e _ _ q)
theorem Thing.ty {K : PySem.W.Frag} {H : Hp} {v : V} {n : String} (h : Thing H v n) : TyX K H v (.type n) := by
  cases h with
  | non => exact .base .non
  | bl b => exact .base (.bl b)
  | int i => exact .base (.int i)
  | str l h => exact .base (.str _)
  | lst q => exact .base (.lst q)
  | tup q => exact .base (.tup q)
  | dK q => exact .base (.dK q)
section
variable {K : PySem.W.Frag} {σ : L2.St} {H H' : Hp} {ta tb te tx : TE} {t u : TT} {x y z v : V} {r : R2}
/-- isinstance(x, T), T a built-in type -/
theorem ev_isi {T n : String} {b : Bool} (h : Ev ta σ H v) (th : Thing H v n) (hk : kitB n T = some b) : Ev (tCB (rIsi K) (tCons ta (tCons (tC (.ty T)) tNil))) σ H (.bl b) := fun H1 e Q q =>
  h H1 e _ fun H2 e2 => ⟨v, .ty T, .type n, .type T, b, rfl, .ty T, (th.ex (e.trans e2)).ty, kit_ty hk, q H2 e2⟩
/-- .. of an own class's instance, or any value whose type is known -/
theorem ev_isiX {c : V} {ty u : Value} {b : Bool} (h : Ev ta σ H v) (hc : ClsV c u) (th : ∀ H1, Ex H H1 → TyX K H1 v ty) (hk : PySem.W.kitOne K ty u = some b) : Ev (tCB (rIsi K) (tCons ta (tCons (tC c) tNil))) σ H (.bl b) := fun H1 e Q q =>
  h H1 e _ fun H2 e2 => ⟨v, c, ty, u, b, rfl, hc, th H2 (e.trans e2), hk, q H2 e2⟩
end
/-! ### strip -/
theorem tw_all {p : Nat → Bool} : ∀ l : List Nat, (∀ c ∈ l, p c = true) → l.takeWhile p = l
  | [], _ => rfl
  | c :: r, h => by rw [List.takeWhile_cons, if_pos (h c List.mem_cons_self), tw_all r fun d hd => h d (List.mem_cons_of_mem _ hd)]
theorem tw_mem {p : Nat → Bool} : ∀ {l : List Nat} {c : Nat}, c ∈ l.takeWhile p → p c = true
  | [], c, h => by cases h
  | d :: r, c, h => by
    rw [List.takeWhile_cons] at h
    by_cases hp : p d = true
    · rw [if_pos hp] at h
      rcases List.mem_cons.mp h with e | e
      · rw [e]; exact hp
      · exact tw_mem e
    · rw [if_neg hp] at h
      cases h
theorem strip_S (l cs : List Nat) : decide (Txt.stripChars (S l) (S cs) = S []) = l.all (fun c => cs.contains c) := by
  have hg : ∀ c, (S cs).cps.contains c = cs.contains c := fun c => by
    show cs.toArray.contains c = cs.contains c
    simp
  rw [Bool.eq_iff_iff, decide_eq_true_eq, List.all_eq_true]
  constructor
  · intro h
    unfold Txt.stripChars Txt.stripBy at h
    split at h
    · have e := S_inj h
      subst e
      intro c hc
      cases hc
    · unfold stripped Builtin.Str.strSub at h
      have hlen : ((S l).cps.extract (stripLo (S cs).cps.contains true (S l)) (stripHi (S cs).cps.contains true (S l) (stripLo (S cs).cps.contains true (S l)))).size = 0 := by
        have := congrArg (fun z : Str => z.cps.size) h
        simpa using this
      rw [Array.size_extract] at hlen
      unfold stripLo stripHi at hlen
      simp only [if_true] at hlen
      have ecps : (S l).cps.toList = l := rfl
      have esz : (S l).cps.size = l.length := by simp [S]
      have hs : l.toArray.size = l.length := by simp
      have hlen2 : min (l.length - ((l.drop (l.takeWhile (S cs).cps.contains).length).reverse.takeWhile (S cs).cps.contains).length) l.length - (l.takeWhile (S cs).cps.contains).length = 0 := by
        rw [S_len, hs] at hlen
        exact hlen
      have a1 : (l.takeWhile (S cs).cps.contains).length ≤ l.length := (List.takeWhile_prefix _).length_le
      have a2 : ((l.drop (l.takeWhile (S cs).cps.contains).length).reverse.takeWhile (S cs).cps.contains).length ≤ (l.drop (l.takeWhile (S cs).cps.contains).length).reverse.length := (List.takeWhile_prefix _).length_le
      rw [List.length_reverse, List.length_drop] at a2
      have key : ∀ (p : Nat → Bool) (l : List Nat), l.length ≤ (l.takeWhile p).length + ((l.drop (l.takeWhile p).length).reverse.takeWhile p).length → ∀ c ∈ l, p c = true := by
        intro p l hl
        have hd : l.drop (l.takeWhile p).length = l.dropWhile p := by
          have := List.takeWhile_append_dropWhile (p := p) (l := l)
          conv => lhs; rw [← this]
          rw [show (l.takeWhile p ++ l.dropWhile p).takeWhile p = l.takeWhile p by rw [this]]
          exact List.drop_left
        rw [hd] at hl
        have hln : l.length = (l.takeWhile p).length + (l.dropWhile p).length := by
          rw [← List.length_append, List.takeWhile_append_dropWhile]
        have h3 : (l.dropWhile p).reverse.takeWhile p = (l.dropWhile p).reverse := by
          have hs : (l.dropWhile p).reverse.takeWhile p <+: (l.dropWhile p).reverse := List.takeWhile_prefix p
          exact hs.eq_of_length_le (by rw [List.length_reverse]; omega)
        intro c hc
        rw [← List.takeWhile_append_dropWhile (p := p) (l := l)] at hc
        rcases List.mem_append.mp hc with q | q
        · exact tw_mem q
        · have : c ∈ (l.dropWhile p).reverse.takeWhile p := by rw [h3]; exact List.mem_reverse.mpr q
          exact tw_mem this
      intro c hc
      rw [← hg]
      exact key _ l (by omega) c hc
  · intro h
    have hp : ∀ c ∈ l, (S cs).cps.contains c = true := fun c hc => by rw [hg]; exact h c hc
    have e0 : stripLo (S cs).cps.contains true (S l) = l.length := by
      unfold stripLo
      rw [if_pos rfl]
      show (l.takeWhile _).length = _
      rw [tw_all l hp]
    have e1 : stripHi (S cs).cps.contains true (S l) l.length = l.length := by
      unfold stripHi
      rw [if_pos rfl, S_len]
      show l.length - ((l.drop l.length).reverse.takeWhile _).length = _
      rw [List.drop_length]
      simp
    unfold Txt.stripChars Txt.stripBy stripSame
    rw [e0, e1, S_len]
    by_cases hl : l.length = 0
    · have : l = [] := List.eq_nil_of_length_eq_zero hl
      subst this
      rfl
    · rw [if_neg (by simp [hl])]
      unfold stripped Builtin.Str.strSub
      rw [e0, e1]
      simp [S]
/-! ### == of lists of plain things -/
section
variable {K : PySem.W.Frag} {H : Hp} {a b : Addr}
theorem dp_map {α : Type} {f : α → V} {g : α → PyData} (hd : ∀ x, Dp K H (f x) (g x)) : ∀ xs : List α, DpAll K H (xs.map f) (xs.map g)
  | [] => .nil
  | x :: xs => .cons (hd x) (dp_map hd xs)
theorem shaped_map {α : Type} {g : α → PyData} : ∀ (xs : List α), (∀ x ∈ xs, (g x).canLay0 = true ∧ (g x).depth ≤ 1) → SeqAt.shaped (.list (xs.map g)) = true := by
  have h1 : ∀ (xs : List α), (∀ x ∈ xs, (g x).canLay0 = true ∧ (g x).depth ≤ 1) → PyData.canLayAll0 (xs.map g) = true ∧ PyData.depthAll (xs.map g) ≤ 1 := by
    intro xs
    induction xs with
    | nil => intro _; exact ⟨rfl, by simp [PyData.depthAll]⟩
    | cons x xs ih =>
      intro hl
      have q := ih fun y hy => hl y (List.mem_cons_of_mem _ hy)
      have p := hl x List.mem_cons_self
      rw [List.map_cons, PyData.canLayAll0, PyData.depthAll, p.1, q.1]
      exact ⟨rfl, by omega⟩
  intro xs hl
  have q := h1 xs hl
  unfold SeqAt.shaped
  rw [Bool.and_eq_true, decide_eq_true_eq]
  refine ⟨by rw [PyData.canLay0]; exact q.1, ?_⟩
  rw [PyData.depth]
  omega
theorem eqvAll_map {α : Type} [DecidableEq α] {g : α → PyData} (he : ∀ x y, PyData.eqv (g x) (g y) = decide (x = y)) : ∀ xs ys : List α, PyData.eqvAll (xs.map g) (ys.map g) = decide (xs = ys)
  | [], [] => by simp [PyData.eqvAll]
  | x :: xs, [] => by simp [PyData.eqvAll]
  | [], y :: ys => by simp [PyData.eqvAll]
  | x :: xs, y :: ys => by
    rw [List.map_cons, List.map_cons, PyData.eqvAll, he, eqvAll_map he xs ys, Bool.eq_iff_iff, Bool.and_eq_true, decide_eq_true_eq, decide_eq_true_eq, decide_eq_true_eq, List.cons.injEq]
theorem rv_eqL {α : Type} [DecidableEq α] (f : α → V) (g : α → PyData) (hd : ∀ H1 x, Dp K H1 (f x) (g x)) (he : ∀ x y, PyData.eqv (g x) (g y) = decide (x = y)) {xs ys : List α} (hl : ∀ x ∈ xs, (g x).canLay0 = true ∧ (g x).depth ≤ 1) (hl2 : ∀ x ∈ ys, (g x).canLay0 = true ∧ (g x).depth ≤ 1) (ha : SqL K H a (xs.map f)) (hb : SqL K H b (ys.map f)) :
    RV (rEqD K) (.ref a) (.ref b) H (.bl (decide (xs = ys))) := fun H1 e Q q =>
  ⟨.list (xs.map g), .list (ys.map g), .lst (ex_l e ha) (dp_map (hd H1) xs), .lst (ex_l e hb) (dp_map (hd H1) ys), shaped_map xs hl, shaped_map ys hl2, by
    rw [PyData.eqv, eqvAll_map he]
    exact q H1 (Ex.refl H1)⟩
theorem rv_neL {α : Type} [DecidableEq α] (f : α → V) (g : α → PyData) (hd : ∀ H1 x, Dp K H1 (f x) (g x)) (he : ∀ x y, PyData.eqv (g x) (g y) = decide (x = y)) {xs ys : List α} (hl : ∀ x ∈ xs, (g x).canLay0 = true ∧ (g x).depth ≤ 1) (hl2 : ∀ x ∈ ys, (g x).canLay0 = true ∧ (g x).depth ≤ 1) (ha : SqL K H a (xs.map f)) (hb : SqL K H b (ys.map f)) :
    RV (rNeD K) (.ref a) (.ref b) H (.bl (!decide (xs = ys))) := fun H1 e Q q =>
  ⟨.list (xs.map g), .list (ys.map g), .lst (ex_l e ha) (dp_map (hd H1) xs), .lst (ex_l e hb) (dp_map (hd H1) ys), shaped_map xs hl, shaped_map ys hl2, by
    rw [PyData.eqv, eqvAll_map he]
    exact q H1 (Ex.refl H1)⟩
theorem eqv_int (x y : Int) : PyData.eqv (.int x) (.int y) = decide (x = y) := by
  rw [PyData.eqv, Bool.eq_iff_iff, beq_iff_eq, decide_eq_true_eq]
theorem eqv_str (x y : List Nat) : PyData.eqv (.str (S x)) (.str (S y)) = decide (x = y) := by
  rw [PyData.eqv, Bool.eq_iff_iff, beq_iff_eq, decide_eq_true_eq]
  exact ⟨fun h => S_inj h, fun h => by rw [h]⟩
theorem eqv_bool (x y : Bool) : PyData.eqv (.bool x) (.bool y) = decide (x = y) := by
  rw [PyData.eqv, Bool.eq_iff_iff, beq_iff_eq, decide_eq_true_eq]
theorem lay_int' (x : Nat) : (PyData.int (x : Int)).canLay0 = true ∧ (PyData.int (x : Int)).depth ≤ 1 := ⟨by simp [PyData.canLay0], by simp [PyData.depth]⟩
theorem eqv_nat (x y : Nat) : PyData.eqv (.int (x : Int)) (.int (y : Int)) = decide (x = y) := by
  rw [eqv_int, Bool.eq_iff_iff, decide_eq_true_eq, decide_eq_true_eq]
  omega
theorem lay_int (x : Int) : (PyData.int x).canLay0 = true ∧ (PyData.int x).depth ≤ 1 := ⟨by simp [PyData.canLay0], by simp [PyData.depth]⟩
theorem lay_bool (x : Bool) : (PyData.bool x).canLay0 = true ∧ (PyData.bool x).depth ≤ 1 := ⟨by simp [PyData.canLay0], by simp [PyData.depth]⟩
abbrev vS (l : List Nat) : V := .str (S l)
/-- signs that are code points -/
def Cps (l : List Nat) : Prop := ∀ c ∈ l, c < 1000
theorem lay_str {x : List Nat} (h : Cps x) : (PyData.str (S x)).canLay0 = true ∧ (PyData.str (S x)).depth ≤ 1 := by
  refine ⟨?_, by simp [PyData.depth]⟩
  rw [PyData.canLay0]
  unfold PyData.strOk
  rw [← Array.all_toList, List.all_eq_true]
  intro c hc
  have : c < 1000 := h c hc
  exact decide_eq_true (by omega)
theorem rv_eqLI {xs ys : List Int} (ha : SqL K H a (xs.map V.int)) (hb : SqL K H b (ys.map V.int)) : RV (rEqD K) (.ref a) (.ref b) H (.bl (decide (xs = ys))) := rv_eqL V.int .int (fun _ x => .int x) eqv_int (fun x _ => lay_int x) (fun x _ => lay_int x) ha hb
theorem rv_neLI {xs ys : List Int} (ha : SqL K H a (xs.map V.int)) (hb : SqL K H b (ys.map V.int)) : RV (rNeD K) (.ref a) (.ref b) H (.bl (!decide (xs = ys))) := rv_neL V.int .int (fun _ x => .int x) eqv_int (fun x _ => lay_int x) (fun x _ => lay_int x) ha hb
abbrev vN (n : Nat) : V := .int (n : Int)
theorem rv_eqLN {xs ys : List Nat} (ha : SqL K H a (xs.map vN)) (hb : SqL K H b (ys.map vN)) : RV (rEqD K) (.ref a) (.ref b) H (.bl (decide (xs = ys))) := rv_eqL vN (fun n => .int (n : Int)) (fun _ x => .int _) eqv_nat (fun x _ => lay_int' x) (fun x _ => lay_int' x) ha hb
theorem rv_neLN {xs ys : List Nat} (ha : SqL K H a (xs.map vN)) (hb : SqL K H b (ys.map vN)) : RV (rNeD K) (.ref a) (.ref b) H (.bl (!decide (xs = ys))) := rv_neL vN (fun n => .int (n : Int)) (fun _ x => .int _) eqv_nat (fun x _ => lay_int' x) (fun x _ => lay_int' x) ha hb
theorem rv_eqLB {xs ys : List Bool} (ha : SqL K H a (xs.map V.bl)) (hb : SqL K H b (ys.map V.bl)) : RV (rEqD K) (.ref a) (.ref b) H (.bl (decide (xs = ys))) := rv_eqL V.bl .bool (fun _ x => .bl x) eqv_bool (fun x _ => lay_bool x) (fun x _ => lay_bool x) ha hb
theorem rv_neLB {xs ys : List Bool} (ha : SqL K H a (xs.map V.bl)) (hb : SqL K H b (ys.map V.bl)) : RV (rNeD K) (.ref a) (.ref b) H (.bl (!decide (xs = ys))) := rv_neL V.bl .bool (fun _ x => .bl x) eqv_bool (fun x _ => lay_bool x) (fun x _ => lay_bool x) ha hb
theorem rv_eqLS {xs ys : List (List Nat)} (hx : ∀ l ∈ xs, Cps l) (hy : ∀ l ∈ ys, Cps l) (ha : SqL K H a (xs.map vS)) (hb : SqL K H b (ys.map vS)) : RV (rEqD K) (.ref a) (.ref b) H (.bl (decide (xs = ys))) := rv_eqL vS (fun l => .str (S l)) (fun _ x => .str _) eqv_str (fun x h => lay_str (hx x h)) (fun x h => lay_str (hy x h)) ha hb
theorem rv_neLS {xs ys : List (List Nat)} (hx : ∀ l ∈ xs, Cps l) (hy : ∀ l ∈ ys, Cps l) (ha : SqL K H a (xs.map vS)) (hb : SqL K H b (ys.map vS)) : RV (rNeD K) (.ref a) (.ref b) H (.bl (!decide (xs = ys))) := rv_neL vS (fun l => .str (S l)) (fun _ x => .str _) eqv_str (fun x h => lay_str (hx x h)) (fun x h => lay_str (hy x h)) ha hb
end
/-! ### comprehensions -/
section
variable {K : PySem.W.Frag} {σ : L2.St} {H H' : Hp} {ta tb te tx : TE} {t u : TT} {x y z v : V} {r : R2}
/-- over range(n), n of any sign -/
theorem el_lcR {ta : TA} {j : Nat} {vs : List Nat} {n : Int} (f : Nat → Bool) (v : Nat → V) (h : EvA ta σ H [.int n]) (hn : -100000 ≤ n ∧ n ≤ 40000) (hw : ∀ x, wipe ((wipe σ vs).set j (some x)) vs = wipe σ vs)
    (ht : ∀ (i : Nat) H1, Ex H H1 → (i : Int) < n → EvT t ((wipe σ vs).set j (some (.int (i : Int)))) H1 (f i)) (he : ∀ (i : Nat) H1, Ex H H1 → (i : Int) < n → f i = true → Ev te ((wipe σ vs).set j (some (.int (i : Int)))) H1 (v i)) :
    EvL (tLc (iRng1 ta) (gName j) t te vs) σ H (given n.toNat f v) := fun H0 e Q q => h H0 e _ fun H1 e1 => ⟨n, rfl, by omega, by omega, fun Dl hD =>
  lc_range (lo := 0) (n := n.toNat) (Cw H1 f v Dl) ⟨hD, Ex.new hD, upd_same⟩ (fun i H' hi p => by
    have e0 : (0 : Int) + (i : Int) = (i : Int) := Int.zero_add _
    show wipe ((wipe σ vs).set j (some (.int ((0 : Int) + (i : Int))))) vs = wipe σ vs ∧ t ((wipe σ vs).set j (some (.int ((0 : Int) + (i : Int))))) H' fun b H3 => if b = true then te ((wipe σ vs).set j (some (.int ((0 : Int) + (i : Int))))) H3 fun y H4 => ∃ acc, H4 Dl = some (.lst acc) ∧ acc.length < sizeLine ∧ Cw H1 f v Dl (i + 1) (upd H4 Dl (.lst (acc ++ [y]))) else Cw H1 f v Dl (i + 1) H3
    rw [e0]
    exact ⟨hw _, cw_turn p (by omega) (ht i H1 (e.trans e1) (by omega)) (fun hf => he i H1 (e.trans e1) (by omega) hf)⟩) (fun H' p => q Dl H' (fresh_back e1 p.1) (e1.trans p.2.1) p.2.2)⟩
theorem et_yes : EvT tYes σ H true := fun H1 _ _ q => q H1 (Ex.refl H1)
theorem given_all (n : Nat) (v : Nat → V) : given n (fun _ => true) v = (List.range n).map v := by
  unfold given
  rw [List.filter_eq_self.mpr (fun _ _ => rfl)]
/-- the first operand a new tuple -/
theorem ev_opU1 {xs : List V} (ha : EvU ta σ H xs) (hb : Ev tb σ H y) (hr : ∀ p H1, H1 p = some (.tup xs) → Ex H H1 → RV r (.ref p) y H1 z) : Ev (tOp r ta tb) σ H z := fun H1 e Q q =>
  ha H1 e _ fun p H2 _ e2 hp => hb H2 (e.trans e2) _ fun H3 e3 => hr p H3 (e3 p _ hp) ((e.trans e2).trans e3) H3 (Ex.refl H3) Q fun H4 e4 => q H4 ((e2.trans e3).trans e4)
/-- f(..), a call that may raise, as a statement; x = f(..); return f(..) -/
theorem q_dropC {sp : Sp} {dvs vs : List V} {E : XK} {ta : TA} {tz : TS} {D : Ends} (h : EvA ta σ H vs) (k : ∀ H1, Ex H H1 → sp (vs ++ dvs) H1 (fun _ H2 => tz D σ H2) E) : tSeq (tDrop (tCall sp dvs E ta)) tz D σ H := h H (Ex.refl H) _ fun H1 e => k H1 e
theorem q_asgC {i : Nat} {sp : Sp} {dvs vs : List V} {E : XK} {ta : TA} {tz : TS} {D : Ends} (h : EvA ta σ H vs) (k : ∀ H1, Ex H H1 → sp (vs ++ dvs) H1 (fun v H2 => tz D (σ.set i (some v)) H2) E) : tSeq (tAsg (tCall sp dvs E ta) (gName i)) tz D σ H := h H (Ex.refl H) _ fun H1 e => k H1 e
theorem s_retC {sp : Sp} {dvs vs : List V} {E : XK} {ta : TA} {D : Ends} (h : EvA ta σ H vs) (k : ∀ H1, Ex H H1 → sp (vs ++ dvs) H1 D.rt E) : tRet (tCall sp dvs E ta) D σ H := h H (Ex.refl H) _ fun H1 e => k H1 e
/-- xs[::-1], xs + ys, new lists -/
theorem el_rev {a : Addr} {xs : List V} (h : Ev te σ H (.ref a)) (hs : SqL K H a xs) : EvL (tRevL K te) σ H xs.reverse := fun H1 e _ q =>
  h H1 e _ fun H2 e2 => ⟨a, xs, rfl, ex_l (e.trans e2) hs, fun p hp => q p _ (fresh_back e2 hp) (e2.trans (Ex.new hp)) upd_same⟩
theorem el_revN {xs : List V} (h : EvL te σ H xs) : EvL (tRevL K te) σ H xs.reverse := fun H1 e _ q =>
  h H1 e _ fun a H2 _ e2 ha => ⟨a, xs, rfl, sq_of ha, fun p hp => q p _ (fresh_back e2 hp) (e2.trans (Ex.new hp)) upd_same⟩
theorem el_slN {tl th : TO} {xs : List V} {lo hi : Option Int} (h : EvL te σ H xs) (h1 : EvO tl σ H lo) (h2 : EvO th σ H hi) : EvL (tSl (rSlL K) te tl th) σ H (cutV xs lo hi) := fun H1 e _ q =>
  h H1 e _ fun a H2 _ e2 ha => h1 H2 (e.trans e2) _ fun H3 e3 => h2 H3 ((e.trans e2).trans e3) _ fun H4 e4 =>
    ⟨a, xs, rfl, sq_of ((e3.trans e4) _ _ ha), fun p hp => q p _ (fresh_back ((e2.trans e3).trans e4) hp) (((e2.trans e3).trans e4).trans (Ex.new hp)) upd_same⟩
theorem el_cat {a : Addr} {xs ys : List V} (ha : Ev ta σ H (.ref a)) (hs : H a = some (.lst xs)) (hb : EvL tb σ H ys) (hz : xs.length + ys.length ≤ 1000000) : EvL (tOp rCat ta tb) σ H (xs ++ ys) := fun H1 e _ q =>
  ha H1 e _ fun H2 e2 => hb H2 (e.trans e2) _ fun b H3 hn e3 hb3 => ⟨a, b, xs, ys, rfl, rfl, ((e.trans e2).trans e3) _ _ hs, hb3, Nat.le_trans hz (by decide), fun p hp => q p _ (fresh_back (e2.trans e3) hp) ((e2.trans e3).trans (Ex.new hp)) upd_same⟩
theorem el_catN {xs ys : List V} (ha : EvL ta σ H xs) (hb : EvL tb σ H ys) (hz : xs.length + ys.length ≤ 1000000) : EvL (tOp rCat ta tb) σ H (xs ++ ys) := fun H1 e _ q =>
  ha H1 e _ fun a H2 _ e2 hs => hb H2 (e.trans e2) _ fun b H3 hn e3 hb3 => ⟨a, b, xs, ys, rfl, rfl, e3 _ _ hs, hb3, Nat.le_trans hz (by decide), fun p hp => q p _ (fresh_back (e2.trans e3) hp) ((e2.trans e3).trans (Ex.new hp)) upd_same⟩
/-- all, any, sum of a new list; len of one, list(xs) -/
theorem ev_all {bs : List Bool} (h : EvL ta σ H (bs.map V.bl)) : Ev (tCB (rAll K) (tCons ta tNil)) σ H (.bl (bs.all id)) := fun H1 e Q q => h H1 e _ fun p H2 _ e2 h2 => ⟨p, bs, rfl, sq_of h2, q H2 e2⟩
theorem ev_any {bs : List Bool} (h : EvL ta σ H (bs.map V.bl)) : Ev (tCB (rAny K) (tCons ta tNil)) σ H (.bl (bs.any id)) := fun H1 e Q q => h H1 e _ fun p H2 _ e2 h2 => ⟨p, bs, rfl, sq_of h2, q H2 e2⟩
theorem ev_sum {ns : List Int} (h : EvL ta σ H (ns.map V.int)) : Ev (tCB (rSum K) (tCons ta tNil)) σ H (.int ns.sum) := fun H1 e Q q => h H1 e _ fun p H2 _ e2 h2 => ⟨p, ns, rfl, sq_of h2, q H2 e2⟩
/-- a call whose first argument is a new list -/
theorem eq_callL1 {sp : Sp} {E : XK} {tr : TA} {xs vs : List V} {P : V → Prop} (h : EvL ta σ H xs) (hr : EvA tr σ H vs) (hs : ∀ p H1, H1 p = some (.lst xs) → Ex H H1 → SpQ sp (.ref p :: vs) H1 P) : EvQ (tCall sp [] E (tCons ta tr)) σ H P := fun H1 e Q q =>
  h H1 e _ fun p H2 _ e2 hp => hr H2 (e.trans e2) _ fun H3 e3 => by
    show sp ((.ref p :: vs) ++ []) H3 Q E
    rw [List.append_nil]
    exact hs p H3 (e3 _ _ hp) ((e.trans e2).trans e3) H3 (Ex.refl H3) Q (fun v H4 pv e4 => q v H4 pv ((e2.trans e3).trans e4)) E
theorem ev_callL1 {sp : Sp} {E : XK} {tr : TA} {xs vs : List V} (h : EvL ta σ H xs) (hr : EvA tr σ H vs) (hs : ∀ p H1, H1 p = some (.lst xs) → Ex H H1 → SpV sp (.ref p :: vs) H1 z) : Ev (tCall sp [] E (tCons ta tr)) σ H z := fun H1 e Q q =>
  h H1 e _ fun p H2 _ e2 hp => hr H2 (e.trans e2) _ fun H3 e3 => by
    show sp ((.ref p :: vs) ++ []) H3 Q E
    rw [List.append_nil]
    exact hs p H3 (e3 _ _ hp) ((e.trans e2).trans e3) H3 (Ex.refl H3) Q (fun H4 e4 => q H4 ((e2.trans e3).trans e4)) E
/-- a, b = e1, e2, by a new tuple -/
theorem q_asgT2 {te1 te2 : TE} {i j : Nat} {P1 P2 : V → Prop} {tz : TS} {D : Ends} (h1 : EvQ te1 σ H P1) (h2 : EvQ te2 σ H P2) (k : ∀ v1 v2 H1, P1 v1 → P2 v2 → Ex H H1 → tz D ((σ.set i (some v1)).set j (some v2)) H1) :
    tSeq (tAsg (tTup (tCons te1 (tCons te2 tNil))) (gTup K 2 (gCons (gName i) (gCons (gName j) gNil)))) tz D σ H := h1 H (Ex.refl H) _ fun v1 H1 p1 e1 => h2 H1 e1 _ fun v2 H2 p2 e2 =>
  ⟨by show 2 ≤ sizeLine; decide, fun p hp => ⟨p, [v1, v2], rfl, .inl (.inl upd_same), rfl, v1, [v2], rfl, v2, [], rfl, rfl, k v1 v2 _ p1 p2 ((e1.trans e2).trans (Ex.new hp))⟩⟩
/-- a new list, told by a property -/
def EvLQ (te : TE) (σ : L2.St) (H : Hp) (P : List V → Prop) : Prop := ∀ H1, Ex H H1 → ∀ Q : VK, (∀ xs p H2, P xs → H1 p = none → Ex H1 H2 → H2 p = some (.lst xs) → Q (.ref p) H2) → te σ H1 Q
/-- over enumerate of a new list, no test: each value has a property -/
theorem eq_lcE {xs : List V} {tl : TE} {i j : Nat} {vs : List Nat} (P : Nat → V → Prop) (h : EvL tl σ H xs) (hz : xs.length ≤ 40000) (hw : ∀ x y, wipe (((wipe σ vs).set i (some x)).set j (some y)) vs = wipe σ vs)
    (he : ∀ (k : Nat) (x : V) H1, Ex H H1 → xs[k]? = some x → EvQ te (((wipe σ vs).set i (some (.int (k : Int)))).set j (some x)) H1 (P k)) :
    EvLQ (tLc (iEnum K (tCons tl tNil)) (gTup K 2 (gCons (gName i) (gCons (gName j) gNil))) tYes te vs) σ H (fun ys => ys.length = xs.length ∧ ∀ k y, ys[k]? = some y → P k y) := fun H0 e Q q => by
  refine h H0 e _ fun a H1 ha e1 hx => ⟨a, xs, rfl, sq_of hx, fun D hD => ?_⟩
  refine lc_it (w := walk_enum (K := K) (a := a) (xs := xs)) (fun k H' => ∃ acc, H1 D = none ∧ Ex H1 H' ∧ H' D = some (.lst acc) ∧ acc.length = k ∧ ∀ m y, acc[m]? = some y → P m y) ⟨[], hD, Ex.new hD, upd_same, rfl, fun m y hm => by cases hm⟩ (fun k H' _ p => ?_) (fun k x H' H'' hk p y => ?_) (fun H' p => ?_)
  · obtain ⟨acc, p1, p2, p3, p4, p5⟩ := p
    exact sq_of (p2 _ _ hx)
  · obtain ⟨acc, p1, p2, p3, p4, p5⟩ := p
    obtain ⟨T, a1, a2, rfl, nT, rfl, e3, e4⟩ := y
    cases (Option.some.inj e3)
    refine ⟨T, [.int (k : Nat), a2], rfl, .inl (.inl upd_same), rfl, _, _, rfl, _, _, rfl, rfl, hw _ _, ?_⟩
    unfold tYes
    simp only [↓reduceIte]
    have x1 : Ex H1 (upd H' T (.tup [.int (k : Nat), a2])) := p2.trans (Ex.new nT)
    refine he k a2 H1 (e.trans e1) e4 _ x1 _ fun v H3 pv e3 => ⟨acc, e3 _ _ ?_, sz_lt (by omega), acc ++ [v], p1, Ex.mut (x1.trans e3) p1, upd_same, ?_, fun m y hm => ?_⟩
    · rw [upd_ne (ne_of_none p3 nT)]
      exact p3
    · rw [List.length_append, p4]
      rfl
    · by_cases hmk : m < acc.length
      · rw [List.getElem?_append_left hmk] at hm
        exact p5 m y hm
      · rw [List.getElem?_append_right (by omega)] at hm
        have : m - acc.length = 0 := by
          cases hh : m - acc.length with
          | zero => rfl
          | succ n => rw [hh] at hm; cases hm
        rw [this] at hm
        cases hm
        have : m = k := by omega
        subst this
        exact pv
  · obtain ⟨acc, p1, p2, p3, p4, p5⟩ := p
    exact q acc D H' ⟨p4, p5⟩ (fresh_back e1 p1) (e1.trans p2) p3
end
end WP
namespace WP
open PySem PySem.Spec PyProof.Rows L2 Evl
open SX (S S_len S_cat S_inj S_tl)
/-! ### mirrors and promises -/
def azs : List Nat := [97, 98, 99, 100, 101, 102, 103, 104, 105, 106, 107, 108, 109, 110, 111, 112, 113, 114, 115, 116, 117, 118, 119, 120, 121, 122]
def bmE : List Value := [.type "ValueError", .type "Exception", .type "BaseException", .type "object"]
/-- a text of letters -/
def Az (l : List Nat) : Prop := ∀ c ∈ l, c ∈ azs
/-- a word -/
def Wd (l : List Nat) : Prop := l.length ≤ 100 ∧ Az l
theorem azs_lt {c : Nat} (h : c ∈ azs) : c < 1000 := by
  have : ∀ c ∈ azs, c < 1000 := by decide
  exact this c h
theorem Az.cps {l : List Nat} (h : Az l) : Cps l := fun c hc => azs_lt (h c hc)
theorem Az.nil : Az [] := fun c h => by cases h
theorem Az.app {a b : List Nat} (h : Az a) (g : Az b) : Az (a ++ b) := fun c hc => (List.mem_append.mp hc).elim (h c) (g c)
theorem Az.cut {l : List Nat} {lo hi : Option Int} (h : Az l) : Az (cut l lo hi) := fun c hc => h c (cut_mem hc)
theorem Az.one {c : Nat} (h : c ∈ azs) : Az [c] := fun d hd => by
  rw [List.mem_singleton.mp hd]
  exact h
/-- is_text -/
def isText (v : V) : Bool := match v with
  | .str z => decide (z.length ≤ 100) && z.cps.toList.all (fun c => azs.contains c)
  | _ => false
theorem isText_S {l : List Nat} : isText (.str (S l)) = (decide (l.length ≤ 100) && l.all (fun c => azs.contains c)) := by
  show (decide ((S l).length ≤ 100) && (S l).cps.toList.all (fun c => azs.contains c)) = _
  rw [S_len]
theorem isText_wd {l : List Nat} (h : Wd l) : isText (.str (S l)) = true := by
  rw [isText_S, Bool.and_eq_true, decide_eq_true_eq, List.all_eq_true]
  exact ⟨h.1, fun c hc => List.contains_iff_mem.mpr (h.2 c hc)⟩
theorem text_wd {H : Hp} {v : V} {n : String} (h : Thing H v n) (e : isText v = true) : ∃ l, v = .str (S l) ∧ Wd l := by
  cases h with
  | str l hl =>
    rw [isText_S, Bool.and_eq_true, decide_eq_true_eq, List.all_eq_true] at e
    exact ⟨l, rfl, e.1, fun c hc => List.contains_iff_mem.mp (e.2 c hc)⟩
  | _ => cases e
def sp_is_text : Sp := fun vs H Q _ => ∃ v n, vs = [v] ∧ Thing H v n ∧ RetV (.bl (isText v)) H Q
def sp_check (C : Addr) : Sp := fun vs H Q E => ∃ v n, vs = [v] ∧ Thing H v n ∧ (isText v = true → RetV .non H Q) ∧ (isText v = false → ∀ H2, Ex H H2 → E (.ref C) none H2)
/-- places -/
def placesF (w t : List Nat) : List Nat := (List.range (w.length + 1 - t.length)).filter fun p => decide ((w.drop p).take t.length = t)
def sp_places_of : Sp := fun vs H Q _ => ∃ w t : List Nat, vs = [.str (S w), .str (S t)] ∧ w.length ≤ 1000 ∧ t.length ≤ 1000 ∧ RetL ((placesF w t).map vN) H Q
/-- a door of a word and a text -/
def sp_places (C1 C2 : Addr) : Sp := fun vs H Q E => ∃ v1 n1 v2 n2, vs = [v1, v2] ∧ Thing H v1 n1 ∧ Thing H v2 n2 ∧
  (isText v1 = false → ∀ H2, Ex H H2 → E (.ref C1) none H2) ∧ (isText v1 = true → isText v2 = false → ∀ H2, Ex H H2 → E (.ref C2) none H2) ∧
  (∀ w t, v1 = .str (S w) → v2 = .str (S t) → Wd w → Wd t → RetL ((placesF w t).map vN) H Q)
/-! the law's own helpers -/
def cellAt (ns : List Int) (k : Nat) : Int := ns.getD k 0
def sp_cell (K : PySem.W.Frag) : Sp := fun vs H Q _ => ∃ (a : Addr) (ns : List Int) (k : Nat), vs = [.ref a, .int (k : Int)] ∧ SqL K H a (ns.map V.int) ∧ RetV (.int (cellAt ns k)) H Q
def primes : List Int := [1000003, 1000033, 1000037, 1000039, 1000081, 1000099, 1000117, 1000121, 1000133, 1000151, 1000159, 1000171, 1000183, 1000187, 1000193, 1000199]
def drawF (c : Int) (k : Nat) (m : Int) : Int := (c * 48271 + (k : Int) * 69621) % (primes.getD (k % 16) 1) % m
def sp_draw : Sp := fun vs H Q _ => ∃ (c : Int) (k : Nat) (m : Int), vs = [.int c, .int (k : Int), .int m] ∧ Lim 5000000 c ∧ k ≤ 1000000 ∧ 0 < m ∧ RetV (.int (drawF c k m)) H Q
def sp_number : Sp := fun vs H Q _ => ∃ (c : Int) (k : Nat) (m : Int), vs = [.int c, .int (k : Int), .int m] ∧ Lim 1048577 c ∧ k ≤ 1000 ∧ 0 < m ∧ (∀ r, 0 ≤ r → r < m → RetV (.int r) H Q)
def lsets : List (List Nat) := [[97, 98], [97, 98, 99], azs, [109, 122], [107]]
def lettersF (c : Int) : List Nat := lsets.getD (drawF c 6 5).toNat []
def sp_letters (K : PySem.W.Frag) : Sp := fun vs H Q _ => ∃ (a : Addr) (ns : List Int) (b : Nat), vs = [.ref a, .int (b : Int)] ∧ SqL K H a (ns.map V.int) ∧ (∀ z ∈ ns, Lim 1048577 z) ∧ b ≤ 100 ∧ RetV (vS (lettersF (cellAt ns 0 + b))) H Q
def sp_word (K : PySem.W.Frag) : Sp := fun vs H Q _ => ∃ (a : Addr) (ns : List Int) (b : Nat), vs = [.ref a, .int (b : Int)] ∧ SqL K H a (ns.map V.int) ∧ (∀ z ∈ ns, Lim 1048577 z) ∧ ns.length ≤ 63 ∧ b ≤ 100 ∧
  ∀ w : List Nat, w.length ≤ 100 → (∀ c ∈ w, c ∈ lettersF (cellAt ns 0 + b)) → RetV (vS w) H Q
def sp_whole : Sp := fun vs H Q _ => ∃ v n, vs = [v] ∧ Thing H v n ∧ RetV (.bl (n == "int")) H Q
theorem cell_lim {ns : List Int} {k : Nat} (h : ∀ z ∈ ns, Lim 1048577 z) : Lim 1048577 (cellAt ns k) := by
  unfold cellAt
  rw [List.getD_eq_getElem?_getD]
  cases e : ns[k]? with
  | none => exact (Lim.small (by decide) (by decide)).mono (by decide)
  | some z => exact h z (List.mem_of_getElem? e)
theorem draw_lo {c : Int} {k : Nat} {m : Int} (h : 0 < m) : 0 ≤ drawF c k m := Int.emod_nonneg _ (by omega)
theorem draw_hi {c : Int} {k : Nat} {m : Int} (h : 0 < m) : drawF c k m < m := Int.emod_lt_of_pos _ h
theorem lsets_az : ∀ l ∈ lsets, Az l := by
  unfold Az
  decide
theorem letters_mem (c : Int) : lettersF c ∈ lsets := by
  unfold lettersF
  have h1 := draw_lo (c := c) (k := 6) (m := 5) (by decide)
  have h2 := draw_hi (c := c) (k := 6) (m := 5) (by decide)
  have h3 : (drawF c 6 5).toNat < lsets.length := by
    show (drawF c 6 5).toNat < 5
    omega
  rw [List.getD_eq_getElem?_getD, List.getElem?_eq_getElem h3]
  exact List.getElem_mem h3
theorem letters_az (c : Int) : Az (lettersF c) := lsets_az _ (letters_mem c)
theorem letters_ne (c : Int) : 0 < (lettersF c).length ∧ (lettersF c).length ≤ 26 := by
  have : ∀ l ∈ lsets, 0 < l.length ∧ l.length ≤ 26 := by decide
  exact this _ (letters_mem c)
theorem primes_pos : ∀ k : Nat, 0 < primes.getD (k % 16) 1 := by
  intro k
  have h : ∀ i : Nat, i < 16 → 0 < primes.getD i 1 := by decide
  exact h _ (Nat.mod_lt _ (by decide))
theorem atI_getD {α : Type} {l : List α} {i : Nat} {d : α} (h : i < l.length) : atI l (i : Int) = some (l.getD i d) := by
  rw [atI_nat (j := i) (List.getElem?_eq_getElem h), List.getD_eq_getElem?_getD, List.getElem?_eq_getElem h]
  rfl
/-! ### texts of some letters, of so many at the most -/
def Gd (ls : List Nat) (n : Nat) (l : List Nat) : Prop := l.length ≤ n ∧ ∀ c ∈ l, c ∈ ls
section
variable {ls l m : List Nat} {n k : Nat}
theorem Gd.mono (h : Gd ls n l) (g : n ≤ k) : Gd ls k l := ⟨Nat.le_trans h.1 g, h.2⟩
theorem Gd.cut {lo hi : Option Int} (h : Gd ls n l) : Gd ls n (cut l lo hi) := ⟨Nat.le_trans (cut_len _ _ _) h.1, fun c hc => h.2 c (cut_mem hc)⟩
theorem Gd.app (h : Gd ls n l) (g : Gd ls k m) : Gd ls (n + k) (l ++ m) := ⟨by rw [List.length_append]; exact Nat.add_le_add h.1 g.1, fun c hc => (List.mem_append.mp hc).elim (h.2 c) (g.2 c)⟩
theorem Gd.rep (h : Gd ls n l) (k : Nat) : Gd ls (k * n) ((List.replicate k l).flatten) := by
  refine ⟨?_, fun c hc => ?_⟩
  · have : ((List.replicate k l).flatten).length = k * l.length := by simp
    rw [this]
    exact Nat.mul_le_mul_left _ h.1
  · obtain ⟨x, hx, hc⟩ := List.mem_flatten.mp hc
    rw [List.eq_of_mem_replicate hx] at hc
    exact h.2 c hc
theorem Gd.to (h : Gd ls n l) {i : Int} (h0 : 0 ≤ i) (hi : i ≤ k) : Gd ls k (WP.cut l none (some i)) := by
  obtain ⟨j, rfl⟩ := Int.eq_ofNat_of_zero_le h0
  rw [cut_to]
  refine ⟨?_, fun c hc => h.2 c (List.mem_of_mem_take hc)⟩
  rw [List.length_take]
  omega
end
theorem at_mem {l : List Nat} {i : Int} (h0 : 0 ≤ i) (h1 : i < l.length) : ∃ c, atI l i = some c ∧ c ∈ l := by
  obtain ⟨j, rfl⟩ := Int.eq_ofNat_of_zero_le h0
  have hj : j < l.length := by
    have : ((j : Nat) : Int) < l.length := h1
    omega
  refine ⟨l[j], atI_nat (List.getElem?_eq_getElem hj), List.getElem_mem hj⟩
/-- sep.join, the empty sep, of texts of one sign each -/
theorem join_ones : ∀ (ys : List (List Nat)), TL.joinL [] ys = ys.flatten
  | [] => rfl
  | [y] => by simp [TL.joinL]
  | y :: z :: r => by
    rw [TL.joinL, join_ones (z :: r)]
    simp
theorem eq_join {K : PySem.W.Frag} {σ : L2.St} {H : Hp} {te : TE} {ls : List Nat} {n : Nat} (hn : n ≤ 1000) (h : EvLQ te σ H (fun ys => ys.length = n ∧ ∀ (k : Nat) (y : V), ys[k]? = some y → ∃ c, y = vS [c] ∧ c ∈ ls)) :
    EvQ (tBM K "str" (fun x xs H Q => ∃ a p, ∃ ys : List Str, x = .str a ∧ xs = [.ref p] ∧ (SqL K H p (ys.map V.str) ∨ SqT K H p (ys.map V.str)) ∧ (ys.map (·.length)).sum + ys.length * a.length ≤ 16777216 ∧ Q (.str (Txt.join a ys)) H) (tC (.str "")) (tCons te tNil)) σ H (fun v => ∃ l, v = vS l ∧ Gd ls n l) := fun H1 e Q q => by
  refine ⟨rfl, h H1 e _ fun ys p H2 hP hp ex2 h2 => ?_⟩
  obtain ⟨hl, hy⟩ := hP
  have key : ∀ ys : List V, (∀ (k : Nat) (y : V), ys[k]? = some y → ∃ c, y = vS [c] ∧ c ∈ ls) → ∃ cs : List Nat, cs.length = ys.length ∧ (∀ c ∈ cs, c ∈ ls) ∧ ys = (cs.map fun c => S [c]).map V.str := by
    intro ys
    induction ys with
    | nil => intro _; exact ⟨[], rfl, fun c h => (by cases h), rfl⟩
    | cons y r ih =>
      intro h
      obtain ⟨cs, h1, h2, h3⟩ := ih fun k z hk => h (k + 1) z hk
      obtain ⟨c, h4, h5⟩ := h 0 y rfl
      refine ⟨c :: cs, by simp [h1], fun d hd => ?_, by rw [h4, h3]; rfl⟩
      rcases List.mem_cons.mp hd with e | e
      · rw [e]; exact h5
      · exact h2 d e
  obtain ⟨cs, h1, h2', h3⟩ := key ys hy
  refine ⟨"", p, cs.map fun c => S [c], rfl, rfl, .inl (.inl (.inl (by rw [← h3]; exact h2))), ?_, ?_⟩
  · have e1 : ((cs.map fun c => S [c]).map (·.length)).sum = cs.length := by
      clear h1 h2' h3
      induction cs with
      | nil => rfl
      | cons c r ih => simp only [List.map_cons, List.sum_cons, ih, List.length_cons, S_len]; simp; omega
    rw [e1]
    have : ((PySem.Str.ofString "") : Str).length = 0 := by decide
    have e2 : (cs.map fun c => S [c]).length = cs.length := by simp
    rw [e2]
    show cs.length + cs.length * ((PySem.Str.ofString "") : Str).length ≤ _
    rw [this]
    omega
  · have e1 : (cs.map fun c => S [c]) = (cs.map fun c => [c]).map S := by simp
    have e2 : Txt.join (PySem.Str.ofString "") (cs.map fun c => S [c]) = S cs := by
      rw [e1, show (PySem.Str.ofString "" : Str) = S [] by decide, SX.join_S, join_ones]
      congr 1
      clear h1 h2' h3 e1
      induction cs with
      | nil => rfl
      | cons c r ih => simp [ih]
    show Q (.str (Txt.join (PySem.Str.ofString "") (cs.map fun c => S [c]))) H2
    rw [e2]
    exact q _ H2 ⟨cs, rfl, by omega, h2'⟩ ex2
/-- the law's own promise -/
def sp_law (K : PySem.W.Frag) : Sp := fun vs H Q _ => ∃ (a : Addr) (ns : List Int), vs = [.ref a] ∧ SqL K H a (ns.map V.int) ∧ ns.length ≤ 63 ∧ (∀ z ∈ ns, Lim 1048577 z) ∧ ∀ H', Q (.bl true) H'
/-- all places, looked at one by one -/
theorem places_all (w t : List Nat) : (List.range (w.length + 1)).filter (fun p => decide ((w.drop p).take t.length = t)) = placesF w t := by
  unfold placesF
  by_cases h : t.length ≤ w.length + 1
  · have e : w.length + 1 = (w.length + 1 - t.length) + t.length := by omega
    conv => lhs; rw [e, List.range_add, List.filter_append]
    rw [show List.filter (fun p => decide ((w.drop p).take t.length = t)) ((List.range t.length).map (fun x => w.length + 1 - t.length + x)) = [] from ?_, List.append_nil]
    refine List.filter_eq_nil_iff.mpr fun x hx => ?_
    obtain ⟨y, hy, rfl⟩ := List.mem_map.mp hx
    have hy' := List.mem_range.mp hy
    intro q
    have q' := of_decide_eq_true q
    have := congrArg List.length q'
    rw [List.length_take, List.length_drop] at this
    omega
  · rw [show w.length + 1 - t.length = 0 by omega]
    refine List.filter_eq_nil_iff.mpr fun x hx => ?_
    intro q
    have q' := of_decide_eq_true q
    have := congrArg List.length q'
    rw [List.length_take, List.length_drop] at this
    omega
/-! ### what the top has left -/
abbrev KOf {K : PySem.W.Frag} {h : Heap} (_ : K.In h) : PySem.W.Frag := K
structure Dn (K : PySem.W.Frag) (mg : Str → Option Value) (x : Str) (st : Stmt) : Prop where
  ex : ∃ (f : Addr) (fd : FuncData), mg x = some (.ref f) ∧ Fun K x x st f fd
theorem dn_mk {K : PySem.W.Frag} {h : Heap} {mg : Str → Option Value} {x : Str} {st : Stmt} {f : Addr} {oc : Value} {od an : Option Addr} {osl : Array (Option Value)} {kV doc pm cdv ct : Value} (X : K.In h) (G : h.Ns mainGlobals mg)
    (a : PySem.W.nsIn K mainGlobals x = some (some (.ref f))) (l : K.lookup f = some ⟨oc, od, .func (PySem.W.fnOf x x (defArgs st) (defBody st) (defScope st) .none kV doc pm an cdv ct), osl⟩) (c : PySem.W.codeIn K cdv x = true) (k : PySem.W.keepIn K (.ref f) = true) : Dn K mg x st :=
  ⟨f, _, PySem.W.mg_of X G a, fun_mk l c k⟩
theorem gi_mk {K : PySem.W.Frag} {h : Heap} {mg : Str → Option Value} {x : Str} {i : Int} {t : Tok} (X : K.In h) (G : h.Ns mainGlobals mg) (a : PySem.W.nsIn K mainGlobals x = some (some (.int i t))) : ∃ u, mg x = some u ∧ RelV (.int i) u := ⟨_, PySem.W.mg_of X G a, ⟨t, rfl⟩⟩
theorem gs_mk {K : PySem.W.Frag} {h : Heap} {mg : Str → Option Value} {x z : Str} {t : Tok} (X : K.In h) (G : h.Ns mainGlobals mg) (a : PySem.W.nsIn K mainGlobals x = some (some (.str z t))) : ∃ u, mg x = some u ∧ RelV (.str z) u := ⟨_, PySem.W.mg_of X G a, ⟨t, rfl⟩⟩
theorem er_mk {K : PySem.W.Frag} {h : Heap} {mg : Str → Option Value} {x : Str} {C : Addr} (X : K.In h) (G : h.Ns mainGlobals mg) (a : PySem.W.nsIn K mainGlobals x = some (some (.ref C))) (x1 : PySem.W.excIn K C bmE "ValueError.__new__" = true) (k : PySem.W.keepIn K (.ref C) = true)
    (b : PySem.W.subIn K (.ref C) (.type "BaseException") = some true) (t : PySem.W.typeIn K (.ref C) = some (.type "type")) : Er K mg x C bmE := ⟨PySem.W.mg_of X G a, x1, k, b, t⟩
theorem cal_mk {P : Program} {w : World} {K : PySem.W.Frag} {mg : Str → Option Value} {base : Heap} {k : Nat} {x : Str} {st : Stmt} {ps : List Str} {sp : Sp} (D : Dn K mg x st) (ok : ∀ f fd, Fun K x x st f fd → FnOk P w K mg base (L2.CX P w) k f fd ps sp)
    (b : ∀ (kV doc pm : Value) (an : Option Addr) (cdv ct : Value) (us : List Value), us.length = ps.length → bindArgs (PySem.W.fnOf x x (defArgs st) (defBody st) (defScope st) .none kV doc pm an cdv ct) ⟨us, []⟩ = pure (ps.zip us)) : Cal P w K mg base k x ps sp := by
  obtain ⟨f, fd, g, F⟩ := D.ex
  exact ⟨f, fd, ok f fd F, g, F.kp, F.binds b⟩
theorem cx_no {P : Program} {w : World} {H : Hp} {s : Shared} {e : Value} {s' : Shared} (h : L2.CX P w [] H s (fun _ _ _ => False) e s') : False := by
  obtain ⟨_, _, _, _, _, _, _, _, _, _, _, _, z⟩ := h
  exact z
end WP
namespace WP
open PySem PySem.Spec PyProof.Rows L2 Evl
open SX (S S_len S_cat S_inj S_tl)
/-! ### a text in a text -/
/-- whether t stands in w -/
def inF (t w : List Nat) : Bool := !(placesF w t).isEmpty
theorem mem_places {w t : List Nat} {i : Nat} : i ∈ placesF w t ↔ i + t.length ≤ w.length ∧ (w.drop i).take t.length = t := by
  unfold placesF
  rw [List.mem_filter, List.mem_range, decide_eq_true_eq]
  constructor
  · intro h
    exact ⟨by omega, h.2⟩
  · intro h
    exact ⟨by omega, h.2⟩
theorem inF_iff {t w : List Nat} : inF t w = true ↔ t <:+: w := by
  unfold inF
  rw [Bool.not_eq_true', List.isEmpty_eq_false_iff_exists_mem]
  constructor
  · rintro ⟨i, hi⟩
    obtain ⟨h1, h2⟩ := mem_places.mp hi
    refine ⟨w.take i, (w.drop i).drop t.length, ?_⟩
    conv => lhs; rw [← h2]
    rw [List.length_take, List.length_drop, Nat.min_eq_left (by omega), List.append_assoc, List.take_append_drop, List.take_append_drop]
  · rintro ⟨a, b, e⟩
    refine ⟨a.length, mem_places.mpr ⟨?_, ?_⟩⟩
    · rw [← e]
      simp
    · rw [← e, List.append_assoc, List.drop_left, List.take_left]
theorem forIn_full {s sub : Str} {hi : Nat} : ∀ (l : List Nat) (st : Array Nat × Nat), 1 ≤ st.fst.size → (forIn l st (StrLaws.occBody s sub hi 1)).run.fst = st.fst
  | [], st, _ => rfl
  | a :: l, st, h => by
    rw [List.forIn_cons]
    unfold StrLaws.occBody
    rw [if_neg (fun q => by have := q.1.1.1; omega)]
    exact forIn_full l st h
theorem forIn_first {s sub : Str} {hi : Nat} : ∀ (l : List Nat) (free : Nat), (∀ i ∈ l, free ≤ i) →
    (forIn l ((#[] : Array Nat), free) (StrLaws.occBody s sub hi 1)).run.fst.toList = (l.filter fun i => decide (i + sub.length ≤ hi ∧ Builtin.Str.subAt s sub i = true)).take 1
  | [], _, _ => rfl
  | a :: l, free, hf => by
    rw [List.forIn_cons]
    unfold StrLaws.occBody
    have ha : free ≤ a := hf a List.mem_cons_self
    by_cases hc : a + sub.length ≤ hi ∧ Builtin.Str.subAt s sub a = true
    · rw [if_pos ⟨⟨⟨by simp, ha⟩, hc.1⟩, hc.2⟩, List.filter_cons, if_pos (decide_eq_true hc)]
      show (forIn l ((#[] : Array Nat).push a, a + sub.length) (StrLaws.occBody s sub hi 1)).run.fst.toList = _
      rw [forIn_full _ _ (by simp)]
      simp
    · rw [if_neg (fun q => hc ⟨q.1.2, q.2⟩), List.filter_cons, if_neg (by rw [decide_eq_true_eq]; exact hc)]
      exact forIn_first l free fun i hi' => hf i (List.mem_cons_of_mem _ hi')
theorem occ_places (w t : List Nat) : Builtin.Str.occurrences (S w) (S t) 0 (S w).length 1 = (placesF w t).take 1 := by
  rw [StrLaws.occ_eq, forIn_first _ _ (fun _ _ => Nat.zero_le _)]
  congr 1
  have e : ∀ i, decide (i + (S t).length ≤ (S w).length ∧ Builtin.Str.subAt (S w) (S t) i = true) = decide ((w.drop i).take t.length = t ∧ i + t.length ≤ w.length) := fun i => by
    rw [S_len, S_len, StrLaws.subAt_eq, S_len]
    apply decide_eq_decide.mpr
    rw [beq_iff_eq]
    exact ⟨fun h => ⟨h.2, h.1⟩, fun h => ⟨h.2, h.1⟩⟩
  rw [S_len, Nat.sub_zero, ← List.range_eq_range', ← places_all w t]
  refine List.filter_congr fun i hi => ?_
  have e2 := e i
  rw [S_len] at e2
  rw [e2]
  apply decide_eq_decide.mpr
  constructor
  · exact fun h => h.1
  · intro h
    refine ⟨h, ?_⟩
    have := congrArg List.length h
    rw [List.length_take, List.length_drop] at this
    have h2 := List.mem_range.mp hi
    rw [S_len] at h2
    omega
theorem occ_in (w t : List Nat) : (!(Builtin.Str.occurrences (S w) (S t) 0 (S w).length 1).isEmpty) = inF t w := by
  rw [occ_places]
  unfold inF
  cases placesF w t <;> rfl
theorem find_S (w t : List Nat) : Txt.find (S w) (S t) = match placesF w t with | i :: _ => (i : Int) | [] => -1 := by
  unfold Txt.find
  rw [occ_places]
  cases placesF w t <;> rfl
section
variable {K : PySem.W.Frag} {σ : L2.St} {H H' : Hp} {ta tb te tx : TE} {t u : TT} {x y z v : V} {r : R2}
theorem rv_in {a b : List Nat} : RV (fun x y H Q => ∃ i j, x = .str i ∧ y = .str j ∧ Q (.bl (!(Builtin.Str.occurrences j i 0 j.length 1).isEmpty)) H) (.str (S a)) (.str (S b)) H (.bl (inF a b)) := by
  rw [← occ_in]
  exact rv_str2' (f := fun i j => .bl (!(Builtin.Str.occurrences j i 0 j.length 1).isEmpty))
theorem rv_nin {a b : List Nat} : RV (fun x y H Q => ∃ i j, x = .str i ∧ y = .str j ∧ Q (.bl (!(!(Builtin.Str.occurrences j i 0 j.length 1).isEmpty))) H) (.str (S a)) (.str (S b)) H (.bl (!inF a b)) := by
  rw [← occ_in]
  exact rv_str2' (f := fun i j => .bl (!(!(Builtin.Str.occurrences j i 0 j.length 1).isEmpty)))
/-! ### a < b <= c -/
theorem ev_chain2 {r r' : R2} {b1 b2 : Bool} {z : V} (ha : Ev ta σ H x) (hb : Ev tb σ H y) (h1 : RV r x y H (.bl b1)) (hc : Ev tx σ H z) (h2 : RV r' y z H (.bl b2)) : Ev (tChain r r' ta tb tx) σ H (.bl (b1 && b2)) := fun H1 e Q q =>
  ha H1 e _ fun H2 e2 => hb H2 (e.trans e2) _ fun H3 e3 => h1 H3 ((e.trans e2).trans e3) _ fun H4 e4 => ⟨b1, rfl, by
    have x4 := ((e.trans e2).trans e3).trans e4
    have y4 := (e2.trans e3).trans e4
    cases b1 with
    | true =>
      rw [if_pos rfl]
      exact hc H4 x4 _ fun H5 e5 => h2 H5 (x4.trans e5) Q fun H6 e6 => q H6 ((y4.trans e5).trans e6)
    | false =>
      rw [if_neg Bool.false_ne_true]
      exact q H4 y4⟩
end
/-! ### own classes -/
/-- the method m of the class at C keeps the promise -/
structure CalM (P : Program) (w : World) (K : PySem.W.Frag) (mg : Str → Option Value) (base : Heap) (k : Nat) (C : Addr) (m : Str) (ps : List Str) (sp : Sp) : Prop where
  ex : ∃ (f : Addr) (fd : FuncData), FnOk P w K mg base (L2.CX P w) k f fd ps sp ∧ Meth K C m f ∧ Binds K fd ps []
structure CalI (P : Program) (w : World) (K : PySem.W.Frag) (mg : Str → Option Value) (base : Heap) (k : Nat) (x : Str) (C : Addr) (ps : List Str) (sp : Sp) : Prop where
  ex : ∃ (f : Addr) (fd : FuncData), FnOk P w K mg base (L2.CX P w) k f fd ps sp ∧ Mk K C f ∧ Binds K fd ps []
  g : mg x = some (.ref C)
theorem pe_calM {X : Cx} {k : Nat} {C : Addr} {ps : List Str} {sp : Sp} {E : XK} {m : Str} {apos pos : Pos} {o e : Expr} {es : List Expr} {ta : TE} {t : TA} {pl : Sem Bool} (he : PE X o ta) (c : Cls X.K C) (M : CalM X.prog X.w X.K X.mg X.base k C m ps sp) (hr : Room k X.A) (hx : Passes (L2.CX X.prog X.w) X E) (ha : PA X (e :: es) t)
    (hst : starEach (e :: es) X.env = (false, eval e X.env) :: starEach es X.env := by rfl) (hpl : (backTo pos (starEach es X.env)).any (·.1) = false := by rfl)
    (ht : eval (.Call (.Attribute o m apos) (e :: es) [] pos) X.env = (do
      let ov ← eval o X.env
      standAt apos.atName
      let (f, first) ← holding [ov] (getMethod ov m pl)
      callWith pos f first (backTo pos (starEach (e :: es) X.env)) (backToKw pos (keywordEach [] X.env))) := by rfl) :
    PE X (.Call (.Attribute o m apos) (e :: es) [] pos) (tMeth C m sp [] E ta t) := by
  obtain ⟨f, fd, F, hm, hb⟩ := M.ex
  exact pe_meth he c hm F hr hb .nil hx ha hst hpl ht
theorem pe_calI {X : Cx} {k : Nat} {C : Addr} {ps : List Str} {sp : Sp} {E : XK} {x : Str} {p pos : Pos} {e : Expr} {es : List Expr} {t : TA} (M : CalI X.prog X.w X.K X.mg X.base k x C ps sp) (hr : Room (k + 1) X.A) (hg : Gl X x) (hx : Passes (L2.CX X.prog X.w) X E) (ha : PA X (e :: es) t)
    (hdb : (x == ("__debug__" : Str)) = false := by decide) (he : starEach (e :: es) X.env = (false, eval e X.env) :: starEach es X.env := by rfl) (hpl : (backTo pos (starEach es X.env)).any (·.1) = false := by rfl) :
    PE X (.Call (.Name x p) (e :: es) [] pos) (tMake C sp [] E t) := by
  obtain ⟨f, fd, F, hm, hb⟩ := M.ex
  exact pe_make hm F hr hg M.g hb .nil hx ha hdb he hpl
/-- one of two readings -/
theorem pe_either {X : Cx} {e : Expr} {t u : TE} (h1 : PE X e t) (h2 : PE X e u) : PE X e (fun σ H Q => t σ H Q ∨ u σ H Q) := ⟨fun pins s σ H Q I h => h.elim (h1.run pins s σ H Q I) (h2.run pins s σ H Q I)⟩
/-- what the top says of a class C: its place, the names that it hasn't -/
structure Kl (K : PySem.W.Frag) (mg : Str → Option Value) (x : Str) (C : Addr) (nf : List Str) : Prop where
  cl : Cls K C
  g : mg x = some (.ref C)
  nF : ∀ f ∈ nf, NoAttr K C f
  ha : PySem.W.findIn K (.ref C) "__class__" = some (some (.builtin "object.__class__"))
  hn : PySem.W.specialIn K (.builtin "object.__class__") "__get__" = some (some (.builtin "getset_descriptor.__get__"))
  htk : PySem.W.takesIn K (.builtin "object.__class__") = some true
  hm : PySem.W.mroIn K C (.type "object") = some true
section
variable {K : PySem.W.Frag} {σ : L2.St} {H H' : Hp} {ta tb te tx : TE} {x y z v : V}
/-- a new instance of the class at C with the fields fs -/
def EvI (te : TE) (σ : L2.St) (H : Hp) (C : Addr) (fs : List (Str × V)) : Prop := ∀ H1, Ex H H1 → ∀ Q : VK, (∀ p dx H2, H1 p = none → Ex H1 H2 → H2 p = some (.ins C dx fs) → Q (.ref p) H2) → te σ H1 Q
theorem ev_fld {p C dx : Addr} {fs : List (Str × V)} {f : Str} (h : Ev ta σ H (.ref p)) (hp : H p = some (.ins C dx fs)) (cl : Cls K C) (n : NoAttr K C f) (l : fs.lookup f = some v) : Ev (tFld K ta f) σ H v := fun H1 e Q q =>
  h H1 e _ fun H2 e2 => ⟨p, C, dx, fs, v, rfl, (e.trans e2) _ _ hp, cl, n, l, q H2 e2⟩
theorem ev_meth {p C dx : Addr} {fs : List (Str × V)} {m : Str} {sp : Sp} {E : XK} {t : TA} {vs : List V} (h : Ev ta σ H (.ref p)) (hp : H p = some (.ins C dx fs)) (l : fs.lookup m = none) (ha : EvA t σ H vs) (hs : SpV sp (.ref p :: vs) H z) : Ev (tMeth C m sp [] E ta t) σ H z := fun H1 e Q q =>
  h H1 e _ fun H2 e2 => ⟨p, dx, fs, rfl, (e.trans e2) _ _ hp, l, ha H2 (e.trans e2) _ fun H3 e3 => by
    rw [List.append_nil]
    exact hs H3 ((e.trans e2).trans e3) Q (fun H4 e4 => q H4 ((e2.trans e3).trans e4)) E⟩
/-- an __init__'s promise: the fields of a new instance -/
def sp_init (C : Addr) (n : Nat) (fs : List V → List (Str × V)) : Sp := fun vs H Q _ => ∃ (x dx : Addr) (us : List V), vs = .ref x :: us ∧ us.length = n ∧ H x = some (.ins C dx []) ∧ ∀ H2, (∀ b o, b ≠ x → H b = some o → H2 b = some o) → H2 x = some (.ins C dx (fs us)) → Q .non H2
theorem ei_make {C : Addr} {E : XK} {t : TA} {vs : List V} {n : Nat} {fs : List V → List (Str × V)} (ha : EvA t σ H vs) (hn : vs.length = n) : EvI (tMake C (sp_init C n fs) [] E t) σ H C (fs vs) := fun H1 e Q q =>
  ha H1 e _ fun H2 e2 x dx nx ndx ne => ⟨x, dx, vs, by rw [List.append_nil], hn, upd_same, fun H3 k hx => ⟨rfl, q x dx H3 (fresh_back e2 nx) (fun b o hb => k b o (ne_of_none (e2 b o hb) nx) (by rw [upd_ne (ne_of_none (e2 b o hb) nx), upd_ne (ne_of_none (e2 b o hb) ndx)]; exact e2 b o hb)) hx⟩⟩
end
/-! ### numbers; answers -/
def isNum (v : V) : Bool := match v with
  | .int i => decide (0 ≤ i)
  | _ => false
theorem isNum_int (i : Int) : isNum (.int i) = decide (0 ≤ i) := rfl
def sp_is_number : Sp := fun vs H Q _ => ∃ v n, vs = [v] ∧ Thing H v n ∧ RetV (.bl (isNum v)) H Q
def pieceShows (i : Int) (w t : List Nat) : Bool := decide (0 ≤ i) && decide (i.toNat ∈ placesF w t)
def missShows (b e : Int) (w t : List Nat) : Bool := decide (0 ≤ b) && decide (0 ≤ e) && (decide (b < e) && decide (e ≤ t.length)) &&
  (!inF (cut t (some b) (some e)) w && (inF (cut (cut t (some b) (some e)) (some 1) none) w && inF (cut (cut t (some b) (some e)) none (some (-1))) w))
def sp_pshows (C : Addr) : Sp := fun vs H Q _ => ∃ (x dx : Addr) (i : Int) (w t : List Nat), vs = [.ref x, vS w, vS t] ∧ H x = some (.ins C dx [("place", .int i)]) ∧ w.length ≤ 1000 ∧ t.length ≤ 1000 ∧ RetV (.bl (pieceShows i w t)) H Q
def sp_mshows (C : Addr) : Sp := fun vs H Q _ => ∃ (x dx : Addr) (b e : Int) (w t : List Nat), vs = [.ref x, vS w, vS t] ∧ H x = some (.ins C dx [("begin", .int b), ("end", .int e)]) ∧ w.length ≤ 1000 ∧ t.length ≤ 1000 ∧ RetV (.bl (missShows b e w t)) H Q
theorem inV_nat (i : Int) (ns : List Nat) : inV (.int i) (ns.map vN) = (decide (0 ≤ i) && decide (i.toNat ∈ ns)) := by
  unfold inV
  rw [Bool.eq_iff_iff, List.any_eq_true, Bool.and_eq_true, decide_eq_true_eq, decide_eq_true_eq]
  constructor
  · rintro ⟨y, hy, h⟩
    obtain ⟨n, hn, rfl⟩ := List.mem_map.mp hy
    have e : (n : Int) = i := by
      have h' : ((n : Int) == i) = true := h
      exact eq_of_beq h'
    subst e
    exact ⟨by omega, by rw [Int.toNat_natCast]; exact hn⟩
  · rintro ⟨h0, h⟩
    refine ⟨vN i.toNat, List.mem_map.mpr ⟨_, h, rfl⟩, ?_⟩
    show (((i.toNat : Nat) : Int) == i) = true
    rw [Int.toNat_of_nonneg h0]
    exact beq_self_eq_true _
def fsP : List V → List (Str × V)
  | [v] => [("place", v)]
  | _ => []
def fsM : List V → List (Str × V)
  | [b, e] => [("begin", b), ("end", e)]
  | _ => []
theorem len1 {us : List V} (h : us.length = 1) : ∃ v, us = [v] := by
  match us, h with
  | [v], _ => exact ⟨v, rfl⟩
theorem len2 {us : List V} (h : us.length = 2) : ∃ v u, us = [v, u] := by
  match us, h with
  | [v, u], _ => exact ⟨v, u, rfl⟩
theorem kl_mk {K : PySem.W.Frag} {h : Heap} {mg : Str → Option Value} {x : Str} {C : Addr} {f1 f2 f3 : Str} (X : K.In h) (G : h.Ns mainGlobals mg) (a : PySem.W.nsIn K mainGlobals x = some (some (.ref C)))
    (pg : PySem.W.plainGet K C Str.empty = true) (hd : PySem.W.hasDictIn K C = true) (po : PySem.W.plainOver K C = true) (sa : PySem.W.findIn K (.ref C) "__setattr__" = some (some (.builtin "object.__setattr__")))
    (n1 : PySem.W.findIn K (.ref C) f1 = some none) (n2 : PySem.W.findIn K (.ref C) f2 = some none) (n3 : PySem.W.findIn K (.ref C) f3 = some none)
    (ha : PySem.W.findIn K (.ref C) "__class__" = some (some (.builtin "object.__class__"))) (hn : PySem.W.specialIn K (.builtin "object.__class__") "__get__" = some (some (.builtin "getset_descriptor.__get__")))
    (htk : PySem.W.takesIn K (.builtin "object.__class__") = some true) (hm : PySem.W.mroIn K C (.type "object") = some true) : Kl K mg x C [f1, f2, f3] :=
  ⟨⟨pg, hd, po, sa⟩, PySem.W.mg_of X G a, fun f hf => by
    simp only [List.mem_cons, List.not_mem_nil, or_false] at hf
    rcases hf with rfl | rfl | rfl
    · exact n1
    · exact n2
    · exact n3, ha, hn, htk, hm⟩
structure DnM (K : PySem.W.Frag) (C : Addr) (m q : Str) (st : Stmt) : Prop where
  ex : ∃ (f : Addr) (fd : FuncData), PySem.W.findIn K (.ref C) m = some (some (.ref f)) ∧ PySem.W.isFn K (.ref f) = true ∧ Fun K m q st f fd
theorem dnm_mk {K : PySem.W.Frag} {C : Addr} {m q : Str} {st : Stmt} {f : Addr} {oc : Value} {od an : Option Addr} {osl : Array (Option Value)} {kV doc pm cdv ct : Value}
    (a : PySem.W.findIn K (.ref C) m = some (some (.ref f))) (i : PySem.W.isFn K (.ref f) = true) (l : K.lookup f = some ⟨oc, od, .func (PySem.W.fnOf m q (defArgs st) (defBody st) (defScope st) .none kV doc pm an cdv ct), osl⟩) (c : PySem.W.codeIn K cdv q = true) (k : PySem.W.keepIn K (.ref f) = true) : DnM K C m q st := ⟨f, _, a, i, fun_mk l c k⟩
theorem calm_mk {P : Program} {w : World} {K : PySem.W.Frag} {mg : Str → Option Value} {base : Heap} {k : Nat} {C : Addr} {m q : Str} {st : Stmt} {ps : List Str} {sp : Sp} (D : DnM K C m q st) (ok : ∀ f fd, Fun K m q st f fd → FnOk P w K mg base (L2.CX P w) k f fd ps sp)
    (b : ∀ (kV doc pm : Value) (an : Option Addr) (cdv ct : Value) (us : List Value), us.length = ps.length → bindArgs (PySem.W.fnOf m q (defArgs st) (defBody st) (defScope st) .none kV doc pm an cdv ct) ⟨us, []⟩ = pure (ps.zip us)) : CalM P w K mg base k C m ps sp := by
  obtain ⟨f, fd, g, i, F⟩ := D.ex
  exact ⟨f, fd, ok f fd F, ⟨g, i, F.kp⟩, F.binds b⟩
theorem cali_mk {P : Program} {w : World} {K : PySem.W.Frag} {mg : Str → Option Value} {base : Heap} {k : Nat} {C : Addr} {x q : Str} {st : Stmt} {ps : List Str} {sp : Sp} {nf : List Str} (k0 : Kl K mg x C nf) (mk : PySem.W.makesIn K C = true) (kc : PySem.W.keepIn K (.ref C) = true) (D : DnM K C "__init__" q st) (ok : ∀ f fd, Fun K "__init__" q st f fd → FnOk P w K mg base (L2.CX P w) k f fd ps sp)
    (b : ∀ (kV doc pm : Value) (an : Option Addr) (cdv ct : Value) (us : List Value), us.length = ps.length → bindArgs (PySem.W.fnOf "__init__" q (defArgs st) (defBody st) (defScope st) .none kV doc pm an cdv ct) ⟨us, []⟩ = pure (ps.zip us)) : CalI P w K mg base k x C ps sp := by
  obtain ⟨f, fd, g, i, F⟩ := D.ex
  exact ⟨⟨f, fd, ok f fd F, ⟨mk, g, i, kc⟩, F.binds b⟩, k0.g⟩
end WP
namespace WP
open PySem PySem.Spec PyProof.Rows L2 Evl
open SX (S S_len S_cat S_inj S_tl)
/-! ### three comparisons in a row -/
def tChain3 (r r' r'' : R2) (ta tb tc td : TE) : TE := fun σ H Q => ta σ H fun x H1 => tb σ H1 fun y H2 => r x y H2 fun z H3 => ∃ k, z = .bl k ∧
  (if k = true then tc σ H3 fun w' H4 => r' y w' H4 fun z' H5 => ∃ k', z' = .bl k' ∧ (if k' = true then td σ H5 fun v' H6 => r'' w' v' H6 Q else Q (.bl false) H5) else Q (.bl false) H3)
section
variable {X : Cx} {a b c d : Expr} {ta tb tc td : TE} {pos : Pos}
theorem pe_chain3 {op op' op'' : CmpOp} {r r' r'' : R2} (ho : OpR X (compareOp op) r) (ho' : OpR X (compareOp op') r') (ho'' : OpR X (compareOp op'') r'') (ha : PE X a ta) (hb : PE X b tb) (hc : PE X c tc) (hd : PE X d td)
    (hm : lastMarks [op, op', op''] [b, c, d] = false := by with_unfolding_all rfl) : PE X (.Compare a [op, op', op''] [b, c, d] pos) (tChain3 r r' r'' ta tb tc td) := by
  refine ⟨fun pins s σ H Q I h => ?_⟩
  refine Compare_chain (thn (ha.run pins s σ H _ I h) fun v s1 ⟨x, H1, I1, r1, q1⟩ => chain_link (thn (hb.run pins s1 σ H1 _ I1 q1) fun u s2 ⟨y, H2, I2, r2, q2⟩ =>
    thn (ho pins s2 σ H2 x y v u _ I2 r1 r2 q2) fun d1 s3 ⟨z, H3, I3, r3, k, e, q3⟩ => ?_)) hm
  subst e
  cases r3
  refine wpAny_truthy_bool ?_
  cases k with
  | false => exact ite_ff ⟨.bl false, H3, I3, rfl, q3⟩
  | true =>
    refine ite_tt (chain_link (thn (hc.run pins s3 σ H3 _ I3 q3) fun w' s4 ⟨z', H4, I4, r4, q4⟩ => thn (ho' pins s4 σ H4 y z' u w' _ I4 r2 r4 q4) fun d2 s5 ⟨z2, H5, I5, r5, k2, e2, q5⟩ => ?_))
    subst e2
    cases r5
    refine wpAny_truthy_bool ?_
    cases k2 with
    | false => exact ite_ff ⟨.bl false, H5, I5, rfl, q5⟩
    | true => exact ite_tt (chain_last (thn (hd.run pins s5 σ H5 _ I5 q5) fun v' s6 ⟨z3, H6, I6, r6, q6⟩ => ho'' pins s6 σ H6 z' z3 w' v' Q I6 r4 r6 q6))
theorem pt_chain3 {op op' op'' : CmpOp} {r r' r'' : R2} (ho : OpR X (compareOp op) r) (ho' : OpR X (compareOp op') r') (ho'' : OpR X (compareOp op'') r'') (ha : PE X a ta) (hb : PE X b tb) (hc : PE X c tc) (hd : PE X d td)
    (hm : lastMarks [op, op', op''] [b, c, d] = false := by with_unfolding_all rfl) : PT X (.Compare a [op, op', op''] [b, c, d] pos) (tTest (tChain3 r r' r'' ta tb tc td)) := by
  refine ⟨fun pins s σ H Q I h => ?_⟩
  refine isTrue_chain (thn (ha.run pins s σ H _ I h) fun v s1 ⟨x, H1, I1, r1, q1⟩ => test_link (thn (hb.run pins s1 σ H1 _ I1 q1) fun u s2 ⟨y, H2, I2, r2, q2⟩ =>
    thn (ho pins s2 σ H2 x y v u _ I2 r1 r2 q2) fun d1 s3 ⟨z, H3, I3, r3, k, e, q3⟩ => ?_)) hm
  subst e
  cases r3
  refine wpAny_truthy_bool ?_
  cases k with
  | false =>
    obtain ⟨k', e', q'⟩ := q3
    cases e'
    exact ite_ff ⟨H3, I3, q'⟩
  | true =>
    refine ite_tt (test_link (thn (hc.run pins s3 σ H3 _ I3 q3) fun w' s4 ⟨z', H4, I4, r4, q4⟩ => thn (ho' pins s4 σ H4 y z' u w' _ I4 r2 r4 q4) fun d2 s5 ⟨z2, H5, I5, r5, k2, e2, q5⟩ => ?_))
    subst e2
    cases r5
    refine wpAny_truthy_bool ?_
    cases k2 with
    | false =>
      obtain ⟨k', e', q'⟩ := q5
      cases e'
      exact ite_ff ⟨H5, I5, q'⟩
    | true =>
      refine ite_tt (test_last (thn (hd.run pins s5 σ H5 _ I5 q5) fun v' s6 ⟨z3, H6, I6, r6, q6⟩ => thn (ho'' pins s6 σ H6 z' z3 w' v' _ I6 r4 r6 q6) fun d3 s7 ⟨z4, H7, I7, r7, k3, e3, q7⟩ => ?_))
      subst e3
      cases r7
      exact wpAny_truthy_bool ⟨H7, I7, q7⟩
end
section
variable {K : PySem.W.Frag} {σ : L2.St} {H H' : Hp} {ta tb te tx tc td : TE} {t u : TT} {x y z v : V} {r r' r'' : R2}
theorem ev_chain3 {b1 b2 b3 : Bool} {z w' : V} (ha : Ev ta σ H x) (hb : Ev tb σ H y) (h1 : RV r x y H (.bl b1)) (hc : Ev tc σ H z) (h2 : RV r' y z H (.bl b2)) (hd : Ev td σ H w') (h3 : RV r'' z w' H (.bl b3)) : Ev (tChain3 r r' r'' ta tb tc td) σ H (.bl (b1 && (b2 && b3))) := fun H1 e Q q =>
  ha H1 e _ fun H2 e2 => hb H2 (e.trans e2) _ fun H3 e3 => h1 H3 ((e.trans e2).trans e3) _ fun H4 e4 => ⟨b1, rfl, by
    have x4 := ((e.trans e2).trans e3).trans e4
    have y4 := (e2.trans e3).trans e4
    cases b1 with
    | true =>
      rw [if_pos rfl]
      exact hc H4 x4 _ fun H5 e5 => h2 H5 (x4.trans e5) _ fun H6 e6 => ⟨b2, rfl, by
        have x6 := (x4.trans e5).trans e6
        have y6 := (y4.trans e5).trans e6
        cases b2 with
        | true =>
          rw [if_pos rfl]
          exact hd H6 x6 _ fun H7 e7 => h3 H7 (x6.trans e7) Q fun H8 e8 => q H8 ((y6.trans e7).trans e8)
        | false =>
          rw [if_neg Bool.false_ne_true]
          exact q H6 y6⟩
    | false =>
      rw [if_neg Bool.false_ne_true]
      exact q H4 y4⟩
end
/-! ### s[::-1]: a text of the same signs -/
def tRevS (te : TE) : TE := fun σ H Q => te σ H fun x H1 => ∃ l : List Nat, x = .str (S l) ∧ l.length ≤ 1000000 ∧ ∀ m : List Nat, (∀ c ∈ m, c ∈ l) → m.length ≤ l.length → Q (.str (S m)) H1
theorem rev_len (n : Nat) : (Builtin.Str.strSliceIndices none none (-1) n).length ≤ n := by
  unfold Builtin.Str.strSliceIndices sliceRange
  simp
  omega
theorem pe_revS {X : Cx} {e : Expr} {te : TE} {k : Nat} {p1 p2 p3 pos : Pos} (he : PE X e te) : PE X (.Subscript e (.Slice none none (some (.UnaryOp .USub (.Constant (.int 1) k p1) p2)) p3) pos) (tRevS te) := by
  refine ⟨fun pins s σ H Q I h => ?_⟩
  refine Subscript_ (thn (he.run pins s σ H _ I h) fun v s1 ⟨x, H1, I1, r1, q1⟩ => ?_)
  obtain ⟨l, ex, hl, q⟩ := q1
  subst ex
  obtain ⟨t, rfl⟩ := r1
  have hst : PO X (some (.UnaryOp .USub (.Constant (.int 1) k p1) p2)) (tPart (tUn (rU fun i => .int (-i)) (tC (.int 1)))) := po_some (pe_un un_neg pe_int)
  refine wpAny_Slice (thn (po_none.run pins s1 σ H1 (fun o H2 => o = none ∧ H2 = H1) I1 ⟨rfl, rfl⟩) fun vl s2 ⟨l', H2, I2, pl, el, e2⟩ => ?_)
  subst el e2
  refine thn (po_none.run pins s2 σ H2 (fun o H3 => o = none ∧ H3 = H2) I2 ⟨rfl, rfl⟩) fun vu s3 ⟨u, H3, I3, pu, eu, e3⟩ => ?_
  subst eu e3
  refine thn (hst.run pins s3 σ H3 (fun o H4 => o = some (-1) ∧ H4 = H3) I3 ⟨1, rfl, -1, rfl, rfl, rfl⟩) fun vs s4 ⟨o, H4, I4, ps, eo, e4⟩ => ?_
  subst eo e4
  have I5 : Inv X pins σ H4 { s4 with heap := s4.heap.push { cls := .type "slice", data := .fields #[vl, vu, vs] } } := I4.kept (t' := s4.toks) fun b ob q => Heap.get?_push_of_some _ q
  obtain ⟨l1, rfl, el1⟩ := IsPart.raw pl
  obtain ⟨u1, rfl, eu1⟩ := IsPart.raw pu
  obtain ⟨w1, rfl, ew1⟩ := IsPart.raw ps
  show wpAny (model X.prog X.w) X.A (subscriptTail e (.Slice none none (some (.UnaryOp .USub (.Constant (.int 1) k p1) p2)) p3) (.str (S l) t) (.ref s4.heap.objs.size)) (EP X pins σ Q) X.xe { s4 with heap := s4.heap.push { cls := .type "slice", data := .fields #[partValue l1, partValue u1, partValue w1] } }
  refine tail_any (ops := [.str (S l) t, .ref s4.heap.objs.size]) (typeIs_str _ _ _) PySem.F.slot_str_getitem.lookup ?_ (by with_unfolding_all rfl)
  refine wpAny_getItem_str_slice (l := l1) (u := u1) (st := w1) ⟨_, Heap.get?_push_size _ rfl, rfl, rfl⟩ (by rw [ew1]; rfl) ?_
  unfold sliceMade slicePicked
  rw [ew1, el1, eu1]
  rw [if_neg (by simp)]
  have hm : ((Builtin.Str.strSliceIndices none none ((some (-1 : Int)).getD 1) (S l).length).filterMap ((S l).cps[·]?)).length ≤ l.length := by
    refine Nat.le_trans (List.length_filterMap_le _ _) ?_
    rw [S_len]
    exact rev_len _
  refine ⟨?_, .str (S _), H4, I5.tok _, ⟨_, rfl⟩, q _ (fun c hc => ?_) hm⟩
  · show ((List.filterMap _ _).toArray).size ≤ sizeLine
    rw [List.size_toArray]
    exact Nat.le_trans hm (Nat.le_trans hl (by decide))
  · obtain ⟨i, _, hi⟩ := List.mem_filterMap.mp hc
    have : l[i]? = some c := by simpa using hi
    exact List.mem_of_getElem? this
section
variable {K : PySem.W.Frag} {σ : L2.St} {H H' : Hp} {ta tb te tx tc td : TE} {t u : TT} {x y z v : V} {r r' r'' : R2}
theorem eq_revS {l : List Nat} (h : Ev te σ H (vS l)) (hl : l.length ≤ 1000000) : EvQ (tRevS te) σ H (fun v => ∃ m, v = vS m ∧ (∀ c ∈ m, c ∈ l) ∧ m.length ≤ l.length) := fun H1 e Q q =>
  h H1 e _ fun H2 e2 => ⟨l, rfl, hl, fun m h1 h2 => q _ H2 ⟨m, rfl, h1, h2⟩ e2⟩
/-! ### values with facts of the heap that stay -/
def Stay (P : V → Hp → Prop) : Prop := ∀ v H H', Ex H H' → P v H → P v H'
def StayL (P : V → Hp → Prop) : Prop := ∀ v H D a a', H D = some (.lst a) → P v H → P v (upd H D (.lst a'))
def EvG (te : TE) (σ : L2.St) (H : Hp) (P : V → Hp → Prop) : Prop := ∀ H1, Ex H H1 → ∀ Q : VK, (∀ v H2, Ex H1 H2 → P v H2 → Q v H2) → te σ H1 Q
def EvAG (ta : TA) (σ : L2.St) (H : Hp) (P : List V → Hp → Prop) : Prop := ∀ H1, Ex H H1 → ∀ Q : List V → Hp → Prop, (∀ vs H2, Ex H1 H2 → P vs H2 → Q vs H2) → ta σ H1 Q
theorem Ev.toG {P : V → Hp → Prop} (h : Ev te σ H v) (p : ∀ H1, Ex H H1 → P v H1) : EvG te σ H P := fun H1 e Q q => h H1 e Q fun H2 e2 => q v H2 e2 (p H2 (e.trans e2))
theorem eag_nil : EvAG tNil σ H (fun vs _ => vs = []) := fun H1 _ _ q => q [] H1 (Ex.refl H1) rfl
theorem eag_cons {tr : TA} {P : V → Hp → Prop} {R : List V → Hp → Prop} (st : Stay P) (h : EvG te σ H P) (hr : EvAG tr σ H R) : EvAG (tCons te tr) σ H (fun vs H1 => ∃ v r, vs = v :: r ∧ P v H1 ∧ R r H1) := fun H1 e Q q =>
  h H1 e _ fun v H2 e2 p => hr H2 (e.trans e2) _ fun vs H3 e3 pr => q _ H3 (e2.trans e3) ⟨v, vs, rfl, st v H2 H3 e3 p, pr⟩
/-- a pair of ints, an instance -/
def PairI (v : V) (H : Hp) : Prop := ∃ p i j, v = .ref p ∧ H p = some (.tup [.int i, .int j])
theorem stay_pair : Stay PairI := fun v H H' e h => by
  obtain ⟨p, i, j, rfl, h⟩ := h
  exact ⟨p, i, j, rfl, e _ _ h⟩
theorem stayL_pair : StayL PairI := fun v H D a a' hd h => by
  obtain ⟨p, i, j, rfl, h⟩ := h
  exact ⟨p, i, j, rfl, by rw [upd_ne (fun e => by rw [e, hd] at h; cases h)]; exact h⟩
theorem eg_pair {i j : Int} (ha : Ev ta σ H (.int i)) (hb : Ev tb σ H (.int j)) : EvG (tTup (tCons ta (tCons tb tNil))) σ H PairI := fun H1 e Q q =>
  eu_tup (ea_cons ha (ea_cons hb ea_nil)) (by simp) H1 e Q fun p H2 _ e2 h2 => q _ H2 e2 ⟨p, i, j, rfl, h2⟩
def InsI (C : Addr) (fs : List (Str × V)) (v : V) (H : Hp) : Prop := ∃ p dx, v = .ref p ∧ H p = some (.ins C dx fs)
theorem stay_ins {C : Addr} {fs : List (Str × V)} : Stay (InsI C fs) := fun v H H' e h => by
  obtain ⟨p, dx, rfl, h⟩ := h
  exact ⟨p, dx, rfl, e _ _ h⟩
theorem stayL_ins {C : Addr} {fs : List (Str × V)} : StayL (InsI C fs) := fun v H D a a' hd h => by
  obtain ⟨p, dx, rfl, h⟩ := h
  exact ⟨p, dx, rfl, by rw [upd_ne (fun e => by rw [e, hd] at h; cases h)]; exact h⟩
theorem EvI.toG {C : Addr} {fs : List (Str × V)} (h : EvI te σ H C fs) : EvG te σ H (InsI C fs) := fun H1 e Q q => h H1 e Q fun p dx H2 _ e2 h2 => q _ H2 e2 ⟨p, dx, rfl, h2⟩
/-- a new list of such; one grown by another -/
def EvLG (te : TE) (σ : L2.St) (H : Hp) (n : Nat) (P : V → Hp → Prop) : Prop := ∀ H1, Ex H H1 → ∀ Q : VK, (∀ xs p H2, xs.length ≤ n → (∀ x ∈ xs, P x H2) → H1 p = none → Ex H1 H2 → H2 p = some (.lst xs) → Q (.ref p) H2) → te σ H1 Q
theorem elg_cat {P : V → Hp → Prop} {a : Addr} {xs : List V} {n : Nat} (st : Stay P) (ha : Ev ta σ H (.ref a)) (hs : H a = some (.lst xs)) (hp : ∀ x ∈ xs, P x H) (hb : EvLG tb σ H n P) (hz : xs.length + n ≤ 1000000) : EvLG (tOp rCat ta tb) σ H (xs.length + n) P := fun H1 e Q q =>
  ha H1 e _ fun H2 e2 => hb H2 (e.trans e2) _ fun ys b H3 hl hy hn e3 h3 => ⟨a, b, xs, ys, rfl, rfl, ((e.trans e2).trans e3) _ _ hs, h3, Nat.le_trans (by omega) (Nat.le_trans hz (by decide)), fun p hp' =>
    q _ p _ (by rw [List.length_append]; omega) (fun x hx => (List.mem_append.mp hx).elim (fun m => st x _ _ (((e.trans e2).trans e3).trans (Ex.new hp')) (hp x m)) (fun m => st x _ _ (Ex.new hp') (hy x m))) (fresh_back (e2.trans e3) hp') ((e2.trans e3).trans (Ex.new hp')) upd_same⟩
theorem elg_lst {P : V → Hp → Prop} {ta : TA} {n : Nat} (hn : n ≤ 1000) (h : EvAG ta σ H (fun vs H1 => vs.length = n ∧ ∀ x ∈ vs, P x H1)) (st : Stay P) : EvLG (tLst ta) σ H n P := fun H1 e Q q =>
  h H1 e _ fun vs H2 e2 hv => ⟨by rw [hv.1]; exact Nat.le_trans hn (by decide), fun p hp => q vs p _ (by omega) (fun x hx => st x _ _ (Ex.new hp) (hv.2 x hx)) (fresh_back e2 hp) (e2.trans (Ex.new hp)) upd_same⟩
theorem EvAG.imp {ta : TA} {P R : List V → Hp → Prop} (h : EvAG ta σ H P) (i : ∀ vs H1, P vs H1 → R vs H1) : EvAG ta σ H R := fun H1 e Q q => h H1 e Q fun vs H2 e2 p => q vs H2 e2 (i vs H2 p)
/-- a comprehension over range(a, b), no test, each value such -/
theorem elg_lcR2 {P : V → Hp → Prop} {ta : TA} {j : Nat} {vs : List Nat} {lo hi : Int} (st : Stay P) (sl : StayL P) (h : EvA ta σ H [.int lo, .int hi]) (hb : -100000 ≤ lo ∧ lo ≤ 100000 ∧ -100000 ≤ hi ∧ hi ≤ 100000 ∧ hi - lo ≤ 40000) (hw : ∀ x, wipe ((wipe σ vs).set j (some x)) vs = wipe σ vs)
    (he : ∀ (i : Nat) H1, Ex H H1 → lo + (i : Int) < hi → EvG te ((wipe σ vs).set j (some (.int (lo + (i : Int))))) H1 P) : EvLG (tLc (iRng2 ta) (gName j) tYes te vs) σ H (hi - lo).toNat P := fun H0 e Q q =>
  h H0 e _ fun H1 e1 => ⟨lo, hi, rfl, ⟨by omega, by omega, by omega, by omega⟩, fun D hD => by
    refine lc_it (w := walk_range (lo := lo) (n := (hi - lo).toNat)) (fun k H' => ∃ acc, H1 D = none ∧ Ex H1 H' ∧ H' D = some (.lst acc) ∧ acc.length = k ∧ ∀ x ∈ acc, P x H') ⟨[], hD, Ex.new hD, upd_same, rfl, fun x hx => by cases hx⟩ (fun k H' _ p => trivial) (fun k x H' H'' hk p y => ?_) (fun H' p => ?_)
    · obtain ⟨acc, p1, p2, p3, p4, p5⟩ := p
      obtain ⟨rfl, rfl⟩ := y
      refine ⟨hw _, ?_⟩
      unfold tYes
      simp only [↓reduceIte]
      refine he k H'' ((e.trans e1).trans p2) (by omega) H'' (Ex.refl _) _ fun v H3 e3 pv => ⟨acc, e3 _ _ p3, sz_lt (by omega), acc ++ [v], p1, Ex.mut (p2.trans e3) p1, upd_same, by rw [List.length_append, p4]; rfl, fun z hz => ?_⟩
      refine sl z H3 D acc _ (e3 _ _ p3) ?_
      rcases List.mem_append.mp hz with m | m
      · exact st z _ _ e3 (p5 z m)
      · rw [List.mem_singleton.mp m]
        exact pv
    · obtain ⟨acc, p1, p2, p3, p4, p5⟩ := p
      exact q acc D H' (by omega) p5 (fresh_back e1 p1) (e1.trans p2) p3⟩
end
end WP
namespace WP
open PySem PySem.Spec PyProof.Rows L2 Evl
open SX (S S_len S_cat S_inj S_tl)
section
variable {K : PySem.W.Frag} {σ : L2.St} {H H' : Hp} {ta tb te tx tc td tl : TE} {t u : TT} {x y z v : V} {r r' r'' : R2} {D : Ends} {tu tw tz : TS} {g : TG} {P : V → Hp → Prop}
theorem EvL.toLG {xs : List V} (h : EvL te σ H xs) (p : ∀ x ∈ xs, ∀ H1, Ex H H1 → P x H1) : EvLG te σ H xs.length P := fun H1 e Q q => h H1 e Q fun a H2 hn e2 h2 => q xs a H2 (Nat.le_refl _) (fun x hx => p x hx H2 (e.trans e2)) hn e2 h2
theorem q_asgI {i : Nat} {C : Addr} {fs : List (Str × V)} (h : EvI te σ H C fs) (k : ∀ p dx H1, H p = none → Ex H H1 → H1 p = some (.ins C dx fs) → tz D (σ.set i (some (.ref p))) H1) : tSeq (tAsg te (gName i)) tz D σ H := h H (Ex.refl H) _ fun p dx H1 hp e h1 => k p dx H1 hp e h1
theorem q_asgLG {i n : Nat} (h : EvLG te σ H n P) (k : ∀ xs p H1, xs.length ≤ n → (∀ x ∈ xs, P x H1) → H p = none → Ex H H1 → H1 p = some (.lst xs) → tz D (σ.set i (some (.ref p))) H1) : tSeq (tAsg te (gName i)) tz D σ H := h H (Ex.refl H) _ fun xs p H1 hl hx hp e h1 => k xs p H1 hl hx hp e h1
theorem s_asgLG {i n : Nat} (h : EvLG te σ H n P) (k : ∀ xs p H1, xs.length ≤ n → (∀ x ∈ xs, P x H1) → H p = none → Ex H H1 → H1 p = some (.lst xs) → D.nx (σ.set i (some (.ref p))) H1) : tAsg te (gName i) D σ H := h H (Ex.refl H) _ fun xs p H1 hl hx hp e h1 => k xs p H1 hl hx hp e h1
/-- a for over a new list of such things; the body only lays new objects -/
theorem s_forLG {n : Nat} (h : EvLG tl σ H n P) (st : Stay P) (I : L2.St → Prop) (i0 : I σ)
    (hs : ∀ G x σ' H', Ex H G → Ex G H' → P x H' → I σ' → g x σ' H' fun σ2 H2 => tu { D with nx := fun σ3 H3 => I σ3 ∧ Ex G H3, ct := fun σ3 H3 => I σ3 ∧ Ex G H3, bk := D.nx } σ2 H2)
    (hd : ∀ σ' H', I σ' → Ex H H' → D.nx σ' H') : tFor (iList K tl) g tu D σ H := h H (Ex.refl H) _ fun xs p H1 _ hx _ e h1 =>
  ⟨p, rfl, ⟨xs, sq_of h1⟩, for_list (fun _ σ' H' => I σ' ∧ Ex H1 H') ⟨i0, Ex.refl _⟩ (fun _ σ' H' _ q => sq_of (q.2 _ _ h1)) (fun i x σ' H' hi q => hs H1 x σ' H' e q.2 (st x _ _ q.2 (hx x (List.mem_of_getElem? hi))) q.1) (fun σ' H' q => hd σ' H' q.1 (e.trans q.2))⟩
theorem q_forLG {n : Nat} (h : EvLG tl σ H n P) (st : Stay P) (I : L2.St → Prop) (i0 : I σ)
    (hs : ∀ G x σ' H', Ex H G → Ex G H' → P x H' → I σ' → g x σ' H' fun σ2 H2 => tu { D with nx := fun σ3 H3 => I σ3 ∧ Ex G H3, ct := fun σ3 H3 => I σ3 ∧ Ex G H3, bk := tz D } σ2 H2)
    (hd : ∀ σ' H', I σ' → Ex H H' → tz D σ' H') : tSeq (tFor (iList K tl) g tu) tz D σ H := s_forLG (D := { D with nx := tz D }) h st I i0 hs hd
/-- .. over a list that stands -/
theorem q_forLV {a : Addr} {xs : List V} (h : Ev tl σ H (.ref a)) (hl : H a = some (.lst xs)) (hx : ∀ x ∈ xs, P x H) (st : Stay P) (I : L2.St → Prop) (i0 : I σ)
    (hs : ∀ G x σ' H', Ex H G → Ex G H' → P x H' → I σ' → g x σ' H' fun σ2 H2 => tu { D with nx := fun σ3 H3 => I σ3 ∧ Ex G H3, ct := fun σ3 H3 => I σ3 ∧ Ex G H3, bk := tz D } σ2 H2)
    (hd : ∀ σ' H', I σ' → Ex H H' → tz D σ' H') : tSeq (tFor (iList K tl) g tu) tz D σ H := h H (Ex.refl H) _ fun H1 e =>
  ⟨a, rfl, ⟨xs, sq_of (e _ _ hl)⟩, for_list (D := { D with nx := tz D }) (fun _ σ' H' => I σ' ∧ Ex H1 H') ⟨i0, Ex.refl _⟩ (fun _ σ' H' _ q => sq_of (q.2 _ _ (e _ _ hl))) (fun i x σ' H' hi q => hs H1 x σ' H' e q.2 (st x _ _ (e.trans q.2) (hx x (List.mem_of_getElem? hi))) q.1) (fun σ' H' q => hd σ' H' q.1 (e.trans q.2))⟩
theorem q_par2 {te1 te2 : TE} {i j : Nat} {P1 P2 : V → Prop} (h1 : EvQ te1 σ H P1) (h2 : EvQ te2 σ H P2) (k : ∀ v1 v2 H1, P1 v1 → P2 v2 → Ex H H1 → tz D ((σ.set i (some v1)).set j (some v2)) H1) :
    tSeq (tPar i j (tCons te1 (tCons te2 tNil))) tz D σ H := h1 H (Ex.refl H) _ fun v1 H1 p1 e1 => h2 H1 e1 _ fun v2 H2 p2 e2 => ⟨v1, v2, rfl, k v1 v2 _ p1 p2 (e1.trans e2)⟩
theorem EvQ.toG {p : V → Prop} (h : EvQ te σ H p) : EvG te σ H (fun v _ => p v) := fun H1 e Q q => h H1 e Q fun v H2 pv e2 => q v H2 e2 pv
theorem q_asgLA {ta : TA} {R : List V → Hp → Prop} {i : Nat} (h : EvAG ta σ H R) (hz : ∀ vs H1, R vs H1 → vs.length ≤ 1000) (k : ∀ vs p H1, R vs H1 → Ex H H1 → H1 p = none → tz D (σ.set i (some (.ref p))) (upd H1 p (.lst vs))) : tSeq (tAsg (tLst ta) (gName i)) tz D σ H :=
  h H (Ex.refl H) _ fun vs H1 e1 r => ⟨Nat.le_trans (hz vs H1 r) (by decide), fun p hp => k vs p H1 r e1 hp⟩
theorem ev_or1 {t u : TE} (h : Ev t σ H v) : Ev (fun σ H Q => t σ H Q ∨ u σ H Q) σ H v := fun H1 e Q q => .inl (h H1 e Q q)
theorem ev_or2 {t u : TE} (h : Ev u σ H v) : Ev (fun σ H Q => t σ H Q ∨ u σ H Q) σ H v := fun H1 e Q q => .inr (h H1 e Q q)
theorem ev_methI {C : Addr} {fs : List (Str × V)} {m : Str} {sp : Sp} {E : XK} {t : TA} {vs : List V} (h : EvI ta σ H C fs) (l : fs.lookup m = none) (ha : EvA t σ H vs) (hs : ∀ p dx H1, H1 p = some (.ins C dx fs) → SpV sp (.ref p :: vs) H1 z) : Ev (tMeth C m sp [] E ta t) σ H z := fun H1 e Q q =>
  h H1 e _ fun p dx H2 _ e2 hp => ⟨p, dx, fs, rfl, hp, l, ha H2 (e.trans e2) _ fun H3 e3 => by
    rw [List.append_nil]
    exact hs p dx H3 (e3 _ _ hp) H3 (Ex.refl _) Q (fun H4 e4 => q H4 ((e2.trans e3).trans e4)) E⟩
theorem stay_const {p : V → Prop} : Stay (fun v _ => p v) := fun _ _ _ _ h => h
/-- list(range(a, b)) -/
theorem el_listRg {i j : Int} (ha : Ev ta σ H (.int i)) (hb : Ev tb σ H (.int j)) (ok : RgOk i j) : EvL (tLstRg (tRg2 ta tb)) σ H (rgV i j) := fun H1 e Q q =>
  ha H1 e _ fun H2 e2 => hb H2 (e.trans e2) _ fun H3 e3 => ⟨i, j, rfl, rfl, ok, fun p hp => q p _ (fresh_back (e2.trans e3) hp) ((e2.trans e3).trans (Ex.new hp)) upd_same⟩
theorem rgV_int {i j : Int} : ∀ x ∈ rgV i j, ∃ k : Int, x = .int k := by
  intro x hx
  unfold rgV at hx
  obtain ⟨n, _, rfl⟩ := List.mem_map.mp hx
  exact ⟨_, rfl⟩
theorem rgV_len {i j : Int} : (rgV i j).length = (j - i).toNat := by
  unfold rgV
  simp
/-- == of tuples of ints -/
theorem shaped_tup {xs : List Int} : SeqAt.shaped (.tuple (xs.map PyData.int)) = true := shaped_map xs (fun x _ => lay_int x)
theorem rv_eqTI {a b : Addr} {xs ys : List Int} (ha : SqT K H a (xs.map V.int)) (hb : SqT K H b (ys.map V.int)) : RV (rEqD K) (.ref a) (.ref b) H (.bl (decide (xs = ys))) := fun H1 e Q q =>
  ⟨.tuple (xs.map PyData.int), .tuple (ys.map PyData.int), .tup (ex_t e ha) (dp_map (fun x => .int x) xs), .tup (ex_t e hb) (dp_map (fun x => .int x) ys), shaped_tup, shaped_tup, by
    rw [PyData.eqv, eqvAll_map eqv_int]
    exact q H1 (Ex.refl H1)⟩
end
section
variable {K : PySem.W.Frag} {H : Hp}
theorem rv_neTI {a b : Addr} {xs ys : List Int} (ha : SqT K H a (xs.map V.int)) (hb : SqT K H b (ys.map V.int)) : RV (rNeD K) (.ref a) (.ref b) H (.bl (!decide (xs = ys))) := fun H1 e Q q =>
  ⟨.tuple (xs.map PyData.int), .tuple (ys.map PyData.int), .tup (ex_t e ha) (dp_map (fun x => .int x) xs), .tup (ex_t e hb) (dp_map (fun x => .int x) ys), shaped_tup, shaped_tup, by
    rw [PyData.eqv, eqvAll_map eqv_int]
    exact q H1 (Ex.refl H1)⟩
end
/-! ### the law's words about answers -/
def sp_says : Sp := fun vs H Q _ => ∃ b d : Bool, vs = [.bl b, .bl d] ∧ RetV (.bl (b == d)) H Q
def sp_stands : Sp := fun vs H Q _ => ∃ w t : List Nat, vs = [vS w, vS t] ∧ RetV (.bl (inF t w)) H Q
def sp_pright : Sp := fun vs H Q _ => ∃ (w t : List Nat) (i : Int), vs = [vS w, vS t, .int i] ∧ w.length ≤ 1000 ∧ t.length ≤ 1000 ∧ RetV (.bl true) H Q
def sp_mright : Sp := fun vs H Q _ => ∃ (w t : List Nat) (b e : Int), vs = [vS w, vS t, .int b, .int e] ∧ w.length ≤ 1000 ∧ t.length ≤ 1000 ∧ RetV (.bl true) H Q
theorem piece_due (i : Int) (w t : List Nat) : pieceShows i w t = ((decide (0 ≤ i) && decide (i ≤ (w.length : Int) - (t.length : Int))) && decide (cut w (some i) (some (i + (t.length : Int))) = t)) := by
  unfold pieceShows
  by_cases h : 0 ≤ i
  · obtain ⟨n, rfl⟩ := Int.eq_ofNat_of_zero_le h
    rw [decide_eq_true h, Bool.true_and, Bool.true_and, Bool.eq_iff_iff, Bool.and_eq_true, decide_eq_true_eq, decide_eq_true_eq, decide_eq_true_eq, Int.toNat_natCast, mem_places, show ((n : Int) + (t.length : Int)) = ((n + t.length : Nat) : Int) by omega, cut_mid, Nat.add_sub_cancel_left]
    exact ⟨fun q => ⟨by omega, q.2⟩, fun q => ⟨by omega, q.2⟩⟩
  · rw [decide_eq_false h]
    rfl
theorem miss_due (b e : Int) (w t : List Nat) : missShows b e w t = ((decide (0 ≤ b) && (decide (b < e) && decide (e ≤ (t.length : Int)))) && (!inF (cut t (some (if b > 0 then b else 0)) (some (if e > 0 then e else 0))) w && (inF (cut (cut t (some (if b > 0 then b else 0)) (some (if e > 0 then e else 0))) (some 1) none) w && inF (cut (cut t (some (if b > 0 then b else 0)) (some (if e > 0 then e else 0))) none (some (-1))) w))) := by
  unfold missShows
  by_cases h : 0 ≤ b ∧ b < e
  · have e1 : (if b > 0 then b else 0) = b := by split <;> omega
    have e2 : (if e > 0 then e else 0) = e := by split <;> omega
    rw [e1, e2, decide_eq_true h.1, decide_eq_true h.2, decide_eq_true (show 0 ≤ e by omega)]
    rfl
  · have : (decide (0 ≤ b) && (decide (b < e) && decide (e ≤ (t.length : Int)))) = false := by
      rw [Bool.and_eq_false_iff, Bool.and_eq_false_iff, decide_eq_false_iff_not, decide_eq_false_iff_not]
      omega
    rw [this]
    have : (decide (0 ≤ b) && decide (0 ≤ e) && (decide (b < e) && decide (e ≤ (t.length : Int)))) = false := by
      rw [Bool.and_eq_false_iff, Bool.and_eq_false_iff, Bool.and_eq_false_iff, decide_eq_false_iff_not, decide_eq_false_iff_not, decide_eq_false_iff_not]
      omega
    rw [this]
    rfl
end WP
namespace WP
open PySem PySem.Spec PyProof.Rows L2 Evl
open SX (S S_len S_cat S_inj S_tl)
section
variable {K : PySem.W.Frag} {σ : L2.St} {H H' : Hp} {ta tb te tx tc td tl : TE} {t u : TT} {x y z v : V} {r r' r'' : R2} {D : Ends} {tu tw tz : TS} {g : TG} {P : V → Hp → Prop}
def RetI (C : Addr) (fs : List (Str × V)) (H : Hp) (Q : VK) : Prop := ∀ p dx H2, H p = none → Ex H H2 → H2 p = some (.ins C dx fs) → Q (.ref p) H2
theorem s_retI {C : Addr} {fs : List (Str × V)} (h : EvI te σ H C fs) (k : ∀ p dx H1, H p = none → Ex H H1 → H1 p = some (.ins C dx fs) → D.rt (.ref p) H1) : tRet te D σ H := h H (Ex.refl H) _ k
theorem RetI.go {C : Addr} {fs : List (Str × V)} {Q : VK} (k : RetI C fs H Q) (e : Ex H H') {p dx : Addr} {H2 : Hp} (hp : H' p = none) (e2 : Ex H' H2) (h : H2 p = some (.ins C dx fs)) : Q (.ref p) H2 := k p dx H2 (fresh_back e hp) (e.trans e2) h
theorem el_if {b : Bool} {xs : List V} (h : EvT t σ H b) (h1 : b = true → EvL ta σ H xs) (h2 : b = false → EvL tb σ H xs) : EvL (tIf t ta tb) σ H xs := fun H1 e Q q => h H1 e _ fun H2 e2 => by
  cases b with
  | true =>
    show ta σ H2 Q
    exact h1 rfl H2 (e.trans e2) Q fun p H3 hp e3 h3 => q p H3 (fresh_back e2 hp) (e2.trans e3) h3
  | false =>
    show tb σ H2 Q
    exact h2 rfl H2 (e.trans e2) Q fun p H3 hp e3 h3 => q p H3 (fresh_back e2 hp) (e2.trans e3) h3
theorem ev_callG {ta : TA} {R : List V → Hp → Prop} {sp : Sp} {E : XK} (h : EvAG ta σ H R) (hs : ∀ vs H1, R vs H1 → Ex H H1 → SpV sp vs H1 z) : Ev (tCall sp [] E ta) σ H z := fun H1 e Q q =>
  h H1 e _ fun vs H2 e2 r => by
    show sp (vs ++ []) H2 Q E
    rw [List.append_nil]
    exact hs vs H2 r (e.trans e2) H2 (Ex.refl _) Q (fun H3 e3 => q H3 (e2.trans e3)) E
theorem EvG.imp {P R : V → Hp → Prop} (h : EvG te σ H P) (i : ∀ v H1, P v H1 → R v H1) : EvG te σ H R := fun H1 e Q q => h H1 e Q fun v H2 e2 p => q v H2 e2 (i v H2 p)
/-- a pair of texts -/
def PairS (v : V) (H : Hp) : Prop := ∃ p w t, v = .ref p ∧ H p = some (.tup [vS w, vS t]) ∧ w.length ≤ 1000 ∧ t.length ≤ 1000
theorem stay_pairS : Stay PairS := fun v H H' e h => by
  obtain ⟨p, w, t, rfl, h, h1, h2⟩ := h
  exact ⟨p, w, t, rfl, e _ _ h, h1, h2⟩
theorem eg_pairS (ha : EvQ ta σ H (fun v => ∃ w, v = vS w ∧ w.length ≤ 1000)) (hb : EvQ tb σ H (fun v => ∃ w, v = vS w ∧ w.length ≤ 1000)) : EvG (tTup (tCons ta (tCons tb tNil))) σ H PairS := fun H1 e Q q =>
  ha H1 e _ fun v1 H2 p1 e2 => hb H2 (e.trans e2) _ fun v2 H3 p2 e3 => ⟨by show 2 ≤ sizeLine; decide, fun p hp => by
    obtain ⟨w, rfl, h1⟩ := p1
    obtain ⟨t, rfl, h2⟩ := p2
    exact q _ _ ((e2.trans e3).trans (Ex.new hp)) ⟨p, w, t, rfl, upd_same, h1, h2⟩⟩
def LstP (P : V → Hp → Prop) (n : Nat) (v : V) (H : Hp) : Prop := ∃ p xs, v = .ref p ∧ H p = some (.lst xs) ∧ xs.length ≤ n ∧ ∀ x ∈ xs, P x H
theorem stay_lstP {n : Nat} (st : Stay P) : Stay (LstP P n) := fun v H H' e h => by
  obtain ⟨p, xs, rfl, h, hl, hx⟩ := h
  exact ⟨p, xs, rfl, e _ _ h, hl, fun x m => st x _ _ e (hx x m)⟩
theorem EvLG.toG {n : Nat} (h : EvLG te σ H n P) : EvG te σ H (LstP P n) := fun H1 e Q q => h H1 e Q fun xs p H2 hl hx _ e2 h2 => q _ H2 e2 ⟨p, xs, rfl, h2, hl, hx⟩
end
theorem ev_inT {K : PySem.W.Frag} {σ : L2.St} {H : Hp} {ta tb : TE} {xs : List Int} (ha : EvU ta σ H (xs.map V.int)) (hb : EvU tb σ H (xs.map V.int)) : Ev (tOp (rInD K) ta (tLst (tCons tb tNil))) σ H (.bl true) := fun H1 e Q q =>
  ha H1 e _ fun p H2 _ e2 hp => hb H2 (e.trans e2) _ fun p2 H3 _ e3 hp2 => ⟨by show 1 ≤ sizeLine; decide, fun l hl => by
    have nw := Ex.new (o := .lst [V.ref p2]) hl
    refine ⟨.tuple (xs.map PyData.int), [.tuple (xs.map PyData.int)], .tup (st_of (nw _ _ (e3 _ _ hp))) (dp_map (fun x => .int x) xs), .lst (sq_of upd_same) (.cons (.tup (st_of (nw _ _ hp2)) (dp_map (fun x => .int x) xs)) .nil), shaped_tup, ?_, ?_⟩
    · have h1 : ∀ xs : List Int, PyData.canLayAll0 (xs.map PyData.int) = true ∧ PyData.depthAll (xs.map PyData.int) ≤ 1 := by
        intro xs
        induction xs with
        | nil => exact ⟨rfl, by simp [PyData.depthAll]⟩
        | cons x xs ih =>
          rw [List.map_cons, PyData.canLayAll0, PyData.depthAll, (lay_int x).1, ih.1]
          exact ⟨rfl, by have := (lay_int x).2; omega⟩
      unfold SeqAt.shaped
      rw [Bool.and_eq_true, decide_eq_true_eq]
      refine ⟨by rw [PyData.canLay0, PyData.canLayAll0, PyData.canLay0, (h1 xs).1]; rfl, ?_⟩
      rw [PyData.depth, PyData.depthAll, PyData.depthAll, PyData.depth]
      have := (h1 xs).2
      omega
    · have e : ([PyData.tuple (xs.map PyData.int)].any fun z => PyData.eqv z (.tuple (xs.map PyData.int))) = true := by
        rw [List.any_cons, PyData.eqv, eqvAll_map eqv_int, decide_eq_true rfl]
        rfl
      rw [e]
      exact q _ ((e2.trans e3).trans nw)⟩
theorem units65 {k : Nat} {A : Around} (h : Room k A) : A.units + 65 < cLine := by
  have := h.un
  omega
/-! ### told -/
def sp_told (C1 C2 CP CM : Addr) : Sp := fun vs H Q E => ∃ v1 n1 v2 n2, vs = [v1, v2] ∧ Thing H v1 n1 ∧ Thing H v2 n2 ∧
  (isText v1 = false → ∀ H2, Ex H H2 → E (.ref C1) none H2) ∧ (isText v1 = true → isText v2 = false → ∀ H2, Ex H H2 → E (.ref C2) none H2) ∧
  (∀ w t, v1 = vS w → v2 = vS t → Wd w → Wd t → (∀ i r, placesF w t = i :: r → RetI CP [("place", .int (i : Nat))] H Q) ∧
    (placesF w t = [] → ∀ b e : Nat, b < e → e ≤ t.length → (∀ j, j < e → inF (t.take j) w = true) → inF (t.take e) w = false → (∀ j, j ≤ b → inF ((t.take e).drop j) w = false) → inF ((t.take e).drop (b + 1)) w = true → RetI CM [("begin", .int (b : Nat)), ("end", .int (e : Nat))] H Q))
theorem inF_nil (w : List Nat) : inF [] w = true := inF_iff.mpr (List.nil_infix)
theorem cut_tb (t : List Nat) (b e : Nat) : cut t (some (b : Int)) (some (e : Int)) = (t.take e).drop b := by
  rw [cut_mid, List.drop_take]
/-- what told tells of a text that is none is so -/
theorem told_shows {w t : List Nat} {b e : Nat} (h1 : b < e) (h2 : e ≤ t.length) (h3 : ∀ j, j < e → inF (t.take j) w = true) (h5 : ∀ j, j ≤ b → inF ((t.take e).drop j) w = false) (h6 : inF ((t.take e).drop (b + 1)) w = true) : missShows b e w t = true := by
  unfold missShows
  rw [cut_tb, h5 b (Nat.le_refl _), decide_eq_true (show (0 : Int) ≤ b by omega), decide_eq_true (show (0 : Int) ≤ e by omega), decide_eq_true (show (b : Int) < e by omega), decide_eq_true (show (e : Int) ≤ t.length by omega)]
  have e1 : cut ((t.take e).drop b) (some 1) none = (t.take e).drop (b + 1) := by
    rw [show (some (1 : Int)) = some ((1 : Nat) : Int) from rfl, cut_from, List.drop_drop]
  have e2 : inF (cut ((t.take e).drop b) none (some (-1))) w = true := by
    rw [cut_last, inF_iff]
    have h := inF_iff.mp (h3 (e - 1) (by omega))
    have e3 : ((t.take e).drop b).dropLast = (t.take (e - 1)).drop b := by
      rw [List.dropLast_eq_take, List.length_drop, List.length_take, Nat.min_eq_left h2, List.drop_take, List.drop_take, List.take_take]
      congr 1
      omega
    rw [e3]
    exact (List.drop_suffix _ _).isInfix.trans h
  rw [e1, h6, e2]
  rfl
theorem told_piece {w t : List Nat} {i : Nat} {r : List Nat} (h : placesF w t = i :: r) : pieceShows i w t = true := by
  unfold pieceShows
  rw [decide_eq_true (show (0 : Int) ≤ i by omega), Int.toNat_natCast, h, decide_eq_true List.mem_cons_self]
  rfl
/-- due, of one of the two -/
def sp_due (CP CM : Addr) : Sp := fun vs H Q _ => ∃ (w t : List Nat) (x : Addr), vs = [vS w, vS t, .ref x] ∧ w.length ≤ 1000 ∧ t.length ≤ 1000 ∧
  ((∃ dx i, H x = some (.ins CP dx [("place", .int i)]) ∧ RetV (.bl (pieceShows i w t)) H Q) ∨ (∃ dx b e, H x = some (.ins CM dx [("begin", .int b), ("end", .int e)]) ∧ RetV (.bl (missShows b e w t)) H Q))
theorem miss_due2 (b e : Int) (w t : List Nat) : missShows b e w t = ((decide (0 ≤ b) && (decide (b < e) && decide (e ≤ (t.length : Int)))) && (!inF (cut t (some b) (some e)) w && (inF (cut (cut t (some b) (some e)) (some 1) none) w && inF (cut (cut t (some b) (some e)) none (some (-1))) w))) := by
  unfold missShows
  congr 1
  by_cases h : 0 ≤ b
  · by_cases h2 : b < e
    · rw [decide_eq_true h, decide_eq_true (show 0 ≤ e by omega), decide_eq_true h2]
      rfl
    · rw [decide_eq_false h2]
      cases decide (0 ≤ b) <;> cases decide (0 ≤ e) <;> rfl
  · rw [decide_eq_false h]
    rfl
def sp_right : Sp := fun vs H Q _ => ∃ (w t : List Nat) (v : V), vs = [vS w, vS t, v] ∧ Wd w ∧ Wd t ∧ LstP PairS 3 v H ∧ RetV (.bl true) H Q
end WP
/-! ### sorted of texts, any number of them -/
namespace SrtO
open PySem PyProof.Rows Srt
section
variable {prog : Program} {w : World} {A : Around} {E : Value → Shared → Prop} {s : Shared}
/-- a text's signs -/
def tv : Value → List Nat
  | .str x _ => x.cps.toList
  | _ => []
def ltTv (v u : Value) : Bool := decide (tv v < tv u)
theorem lt_irr (a : List Nat) : ¬ a < a := List.lt_irrefl a
theorem swo_txt : Swo ltTv := by
  refine ⟨fun x y h => ?_, fun x y z h1 h2 => ?_⟩
  · have a := of_decide_eq_true (p := tv x < tv y) h
    exact decide_eq_false (p := tv y < tv x) fun b => List.lt_irrefl _ (List.lt_trans a b)
  · have a := of_decide_eq_false (p := tv y < tv x) h1
    have b := of_decide_eq_false (p := tv z < tv y) h2
    refine decide_eq_false (p := tv z < tv x) fun c => ?_
    have a' : tv x ≤ tv y := List.not_lt.mp a
    have b' : tv y ≤ tv z := List.not_lt.mp b
    exact (List.not_lt.mpr (List.le_trans a' b')) c
theorem txt_mem : ∀ {vs : List Value} {ss : List PySem.Str}, StrsAre vs ss → ∀ v ∈ vs, ∃ x t, v = Value.str x t
  | _, _, .nil, v, h => absurd h (by simp)
  | _, _, .cons n t r, v, h => by
    rcases List.mem_cons.mp h with e | h
    · exact ⟨n, t, e⟩
    · exact txt_mem r v h
theorem txt_tv : ∀ {vs : List Value} {ss : List PySem.Str}, StrsAre vs ss → vs.map tv = ss.map fun x => x.cps.toList
  | _, _, .nil => rfl
  | _, _, .cons n t r => congrArg (n.cps.toList :: ·) (txt_tv r)
theorem txt_back : ∀ {vs : List Value}, (∀ v ∈ vs, ∃ x t, v = Value.str x t) → StrsAre vs (vs.map fun v => ⟨(tv v).toArray⟩)
  | [], _ => .nil
  | v :: vs, h => by
    obtain ⟨x, t, e⟩ := h v List.mem_cons_self
    subst e
    have ex : (⟨(tv (.str x t)).toArray⟩ : PySem.Str) = x := SX.S_tl x
    rw [List.map_cons, ex]
    exact .cons x t (txt_back fun u hu => h u (List.mem_cons_of_mem _ hu))
theorem txt_cmp {vs : List Value} {ss : List PySem.Str} (hI : StrsAre vs ss) : Cmp prog w A s oneType' (fun p => p.1 ∈ vs) (lt2 ltTv) := by
  intro p q hm hm'
  obtain ⟨a, t, e⟩ := txt_mem hI _ hm
  obtain ⟨b, u, e'⟩ := txt_mem hI _ hm'
  show wpAny (model prog w) A (keyLt' oneType' p.1 q.1) (fun r s' => s' = s ∧ r = ltTv p.1 q.1) (fun _ _ => False) s
  rw [e, e', keyLt'_oneType]
  exact oneLt_str ⟨rfl, rfl⟩
theorem txt_sortable {a : Addr} {vs : List Value} {ss : List PySem.Str} (hI : StrsAre vs ss) (h2 : 2 ≤ vs.length) : SortableO prog w A s a vs ltTv := by
  intro h' _
  refine ⟨oneType', fun Q E hq => ?_, txt_cmp hI⟩
  match vs, ss, hI, h2 with
  | v1 :: v2 :: rest, _, hI, _ =>
    rw [keyKind_strs hI]
    exact wpAny_pure hq
  | [], _, _, h => exact absurd h (by decide)
  | [v], _, _, h => exact absurd h (by simp)
end
end SrtO
namespace WP
open PySem PySem.Spec PyProof.Rows L2 Evl
open SX (S S_len S_cat S_inj S_tl)
/-! ### the one sorted list -/
def ins (x : List Nat) : List (List Nat) → List (List Nat)
  | [] => [x]
  | y :: r => if y < x then y :: ins x r else x :: y :: r
def srt : List (List Nat) → List (List Nat)
  | [] => []
  | x :: r => ins x (srt r)
theorem ins_perm (x : List Nat) : ∀ l, (ins x l).Perm (x :: l)
  | [] => .refl _
  | y :: r => by
    unfold ins
    split
    · exact ((ins_perm x r).cons y).trans (List.Perm.swap x y r)
    · exact .refl _
theorem srt_perm : ∀ l, (srt l).Perm l
  | [] => .refl _
  | x :: r => (ins_perm x (srt r)).trans ((srt_perm r).cons x)
/-- rising, equal ones let by -/
def Up (l : List (List Nat)) : Prop := l.Pairwise (fun a b => ¬ b < a)
theorem ins_up (x : List Nat) : ∀ l, Up l → Up (ins x l)
  | [], _ => List.pairwise_singleton _ _
  | y :: r, h => by
    unfold ins
    have hy := List.pairwise_cons.mp h
    split
    · rename_i c
      refine List.pairwise_cons.mpr ⟨fun z hz => ?_, ins_up x r hy.2⟩
      rcases List.mem_cons.mp ((ins_perm x r).mem_iff.mp hz) with e | e
      · rw [e]
        exact fun q => List.lt_irrefl _ (List.lt_trans c q)
      · exact hy.1 z e
    · rename_i c
      refine List.pairwise_cons.mpr ⟨fun z hz => ?_, h⟩
      rcases List.mem_cons.mp hz with e | e
      · rw [e]; exact c
      · intro q
        have a' : x ≤ y := List.not_lt.mp c
        have b' : y ≤ z := List.not_lt.mp (hy.1 z e)
        exact (List.not_lt.mpr (List.le_trans a' b')) q
theorem srt_up : ∀ l, Up (srt l)
  | [] => List.Pairwise.nil
  | x :: r => ins_up x _ (srt_up r)
theorem up_uniq : ∀ {l m : List (List Nat)}, Up l → Up m → l.Perm m → l = m
  | [], m, _, _, p => (List.Perm.eq_nil p.symm).symm
  | x :: l, [], _, _, p => absurd p.length_eq (by simp)
  | x :: l, y :: m, hl, hm, p => by
    have h1 : x = y := by
      have a := List.pairwise_cons.mp hl
      have b := List.pairwise_cons.mp hm
      have c1 : ¬ x < y := by
        rcases List.mem_cons.mp (p.mem_iff.mp (List.mem_cons_self (a := x) (l := l))) with e | e
        · rw [e]; exact List.lt_irrefl _
        · exact b.1 x e
      have c2 : ¬ y < x := by
        rcases List.mem_cons.mp (p.mem_iff.mpr (List.mem_cons_self (a := y) (l := m))) with e | e
        · rw [e]; exact List.lt_irrefl _
        · exact a.1 y e
      exact List.le_antisymm (List.not_lt.mp c2) (List.not_lt.mp c1)
    subst h1
    rw [up_uniq (List.pairwise_cons.mp hl).2 (List.pairwise_cons.mp hm).2 p.cons_inv]
theorem srt_of {l m : List (List Nat)} (p : l.Perm m) (h : Up l) : l = srt m := up_uniq h (srt_up m) (p.trans (srt_perm m).symm)
theorem srt_mem {l : List (List Nat)} {x : List Nat} : x ∈ srt l ↔ x ∈ l := (srt_perm l).mem_iff
theorem srt_len (l : List (List Nat)) : (srt l).length = l.length := (srt_perm l).length_eq
/-! ### as rules -/
theorem strs_S {its : List Value} {xs : List (List Nat)} (r : Vals (xs.map vS) its) : StrsAre its (xs.map S) := by
  have e : xs.map vS = (xs.map S).map V.str := by rw [List.map_map]; rfl
  rw [e] at r
  exact r.strs
theorem txt_out {vs out : List Value} {xs : List (List Nat)} (hI : StrsAre vs (xs.map S)) (hs : SrtO.Srtd SrtO.ltTv out) (hb : SrtO.Stb SrtO.ltTv out vs) : Vals ((srt xs).map vS) out := by
  have hm : ∀ v ∈ out, ∃ x t, v = Value.str x t := fun v hv => SrtO.txt_mem hI v (hb.perm.mem_iff.mp hv)
  have h1 := SrtO.txt_back hm
  have e1 : out.map SrtO.tv = srt xs := by
    refine srt_of ?_ ?_
    · have q := hb.perm.map SrtO.tv
      rw [SrtO.txt_tv hI, List.map_map] at q
      have e : (xs.map ((fun x : Str => x.cps.toList) ∘ S)) = xs := by
        have : ((fun x : Str => x.cps.toList) ∘ S) = (id : List Nat → List Nat) := rfl
        rw [this, List.map_id]
      rw [e] at q
      exact q
    · exact List.pairwise_map.mpr (hs.imp fun {x y} h => of_decide_eq_false (p := SrtO.tv y < SrtO.tv x) h)
  have h2 := vals_of_strs h1
  have e2 : (out.map fun v => (⟨(SrtO.tv v).toArray⟩ : Str)).map V.str = (srt xs).map vS := by
    rw [← e1, List.map_map, List.map_map]
    rfl
  rw [e2] at h2
  exact h2
/-- sorted(xs), texts -/
def rSortedTx (K : PySem.W.Frag) : List V → Hp → VK → Prop := fun vs H Q => ∃ (a : Addr) (xs : List (List Nat)), vs = [V.ref a] ∧ SqL K H a (xs.map vS) ∧ ∀ p, H p = none → Q (.ref p) (upd H p (.lst ((srt xs).map vS)))
theorem cr_sortedTx {X : Cx} : CallR X (.builtin "sorted") (rSortedTx X.K) := by
  intro pins s σ H vs us Q I r h
  obtain ⟨a, xs, rfl, hs, q⟩ := h
  obtain ⟨its, rv, hl, hz⟩ := I.list hs
  rw [Vals.ref1 r]
  have hi := strs_S rv
  refine SrtO.sorted_ord SrtO.swo_txt hl.isList (by rw [← rv.length]; exact hz) (fun h2 h₁ a' _ _ => SrtO.txt_sortable hi h2) fun out h1 h2 => ?_
  have k1 := txt_out hi h1 h2
  obtain ⟨ep, he'⟩ := PyProof.Rows.sortedAll_at s.heap its out.toArray
  have hlen : ((srt xs).map vS).length ≤ sizeLine := by
    rw [List.length_map, srt_len]
    rw [List.length_map] at hz
    exact hz
  exact ⟨.ref _, upd H (s.heap.objs.size + 1) (.lst ((srt xs).map vS)), I.laid (t' := s.toks) (fun _ _ => PyProof.Rows.sortedAll_old) (Nat.le_succ _) ⟨hlen, out, ep, k1, he'⟩, rfl, q _ (I.hok.fresh (Nat.le_succ _))⟩
/-- sorted(d), its keys texts -/
def rSortedDx : List V → Hp → VK → Prop := fun vs H Q => ∃ (a : Addr) (kvs : List (Key × V)) (ks : List (List Nat)), vs = [V.ref a] ∧ Rd H a (.dK kvs) ∧ kvs.map (·.1) = ks.map (fun l => Sum.inr (S l)) ∧ ks.length ≤ 1000000 ∧ ∀ p, H p = none → Q (.ref p) (upd H p (.lst ((srt ks).map vS)))
theorem cr_sortedDx {X : Cx} (hcalm : X.calm = true) : CallR X (.builtin "sorted") rSortedDx := by
  intro pins s σ H xs us Q I r q
  obtain ⟨a, kvs, ks, ex, hd, hks, hn, q⟩ := q
  subst ex
  obtain ⟨u, eu, rx⟩ := vals1 r
  subst eu
  cases rx
  obtain ⟨z, lo, vs, rel, dd⟩ := dk_rd I.hok hd
  obtain ⟨ep, hat⟩ := dd.dictAt
  have hkeys : vs.map (·.1) = (ks.map S).map Sum.inr := by
    rw [List.map_map]
    exact rel.keys.symm.trans hks
  have hl : vs.length = ks.length := by
    have e := congrArg List.length hkeys
    rw [List.length_map, List.length_map, List.length_map] at e
    exact e
  have h16 : vs.length ≤ sizeLine := by rw [hl, sizeLine_eq]; omega
  refine Calls.call_function_entry PyProof.Rows.kind_sorted PyProof.Rows.plain_sorted PyProof.Rows.entry_sorted (PyProof.Rows.args_sorted1 _) ?_
  unfold Builtin.«sorted»
  refine wpAny_bind (m := checkCount "sorted" 1 1 _) (wpAny_pure ?_)
  refine wpAny_bind (PySem.W.kdu_collect (A := X.A.in1) (PySem.W.kdl_dict (knd := mixKind X.prog X.w) (kvs := vs) (ep := ep) lo) (I.ok.hd hcalm) hat h16 fun h' tk acc hk hacc => ?_)
  have hal : acc.toList.length = (ks.map S).length := by rw [Array.length_toList, hacc.1, hl, List.length_map]
  have hS : StrsAre acc.toList (ks.map S) := strs_at hal fun j v e => by
    obtain ⟨k, x, e1, e2⟩ := hacc.2 j v (by rw [← Array.getElem?_toList]; exact e)
    have e3 : (vs.map (·.1))[j]? = some k := by rw [List.getElem?_map, e1]; all_goals rfl
    rw [hkeys, List.getElem?_map] at e3
    cases e4 : (ks.map S)[j]? with
    | none => rw [e4] at e3; cases e3
    | some y =>
      rw [e4] at e3
      have e5 : Sum.inr y = k := Option.some.inj e3
      subst e5
      obtain ⟨t, ev⟩ := Value.isStrOf_shape (x := y) (v := v) e2
      exact ⟨y, t, rfl, ev⟩
  have I1 : Inv X pins σ H { s with heap := h', toks := tk } := I.kept hk
  have hz2 : acc.toList.length ≤ sizeLine := by rw [hal, List.length_map, sizeLine_eq]; omega
  refine wpAny_bind (wpAny_newList ?_ hz2)
  have hoL : (h'.push (seqObj "list" acc.toList.toArray 0)).get? h'.objs.size = some (seqObj "list" acc.toList.toArray 0) := Heap.get?_push_size _ rfl
  show wpAny _ _ _ _ _ { s with heap := h'.push (seqObj "list" acc.toList.toArray 0), toks := tk }
  refine wpAny_bind (wpAny_holding (wpAny_call_entry PyProof.Rows.slot_list_sort ⟨_, hoL, rfl⟩ PyProof.Rows.entry_list_sort
    (SrtO.list_sort_ord (s := { s with heap := h'.push (seqObj "list" acc.toList.toArray 0), toks := tk }) SrtO.swo_txt hoL hz2 (fun h2 => SrtO.txt_sortable hS h2) fun out h1 h2 => ⟨_, rfl, ?_⟩)
    (PyProof.Rows.args_list_sort _)))
  have k1 := txt_out hS h1 h2
  obtain ⟨e', he'⟩ := PyProof.Rows.sortedHeap_at (vs := acc.toList) (out := out.toArray) hoL
  have hlen : ((srt ks).map vS).length ≤ sizeLine := by
    rw [List.length_map, srt_len]
    exact Nat.le_trans hn (by decide)
  refine wpAny_pure ⟨_, rfl, .ref h'.objs.size, upd H h'.objs.size (.lst ((srt ks).map vS)), I1.laid (t' := tk) (fun b u e => ?_) (Nat.le_refl _)
    (show ObjOk X.prog X.w _ _ _ (.lst ((srt ks).map vS)) from ⟨hlen, out, e', k1, he'⟩), rfl, q _ (I1.hok.fresh (Nat.le_refl _))⟩
  have hb : b < h'.objs.size := Heap.lt_size e
  rw [PyProof.Rows.sortedHeap_old (Nat.ne_of_lt hb) (by rw [size_push']; exact Nat.lt_succ_of_lt hb)]
  exact Heap.get?_push_of_some _ e
section
variable {K : PySem.W.Frag} {σ : L2.St} {H H' : Hp} {ta tb te tx : TE}
theorem el_sorted {xs : List (List Nat)} (h : EvL ta σ H (xs.map vS)) : EvL (tCB (rSortedTx K) (tCons ta tNil)) σ H ((srt xs).map vS) := fun H1 e Q q =>
  h H1 e _ fun a H2 _ e2 ha => ⟨a, xs, rfl, sq_of ha, fun p hp => q p _ (fresh_back e2 hp) (e2.trans (Ex.new hp)) upd_same⟩
end
end WP
namespace WP
/-! ### ends of a word in order, and all its pieces -/
/-- how many first letters are alike -/
def lcp : List Nat → List Nat → Nat
  | x :: a, y :: b => if x = y then lcp a b + 1 else 0
  | _, _ => 0
theorem lcp_le1 : ∀ a b, lcp a b ≤ a.length
  | [], _ => by simp [lcp]
  | x :: a, [] => by simp [lcp]
  | x :: a, y :: b => by
    rw [lcp]
    split
    · have := lcp_le1 a b
      rw [List.length_cons]
      omega
    · omega
theorem lcp_le2 : ∀ a b, lcp a b ≤ b.length
  | [], _ => by simp [lcp]
  | x :: a, [] => by simp [lcp]
  | x :: a, y :: b => by
    rw [lcp]
    split
    · have := lcp_le2 a b
      rw [List.length_cons]
      omega
    · omega
theorem lcp_take : ∀ a b : List Nat, a.take (lcp a b) = b.take (lcp a b)
  | [], _ => by simp [lcp]
  | x :: a, [] => by simp [lcp]
  | x :: a, y :: b => by
    rw [lcp]
    split
    · rename_i h
      rw [List.take_succ_cons, List.take_succ_cons, lcp_take a b, h]
    · rfl
theorem lcp_pre : ∀ {x a b : List Nat}, x <+: a → x <+: b → x.length ≤ lcp a b
  | [], _, _, _, _ => Nat.zero_le _
  | h :: x, [], _, ha, _ => by simp at ha
  | h :: x, _ :: _, [], _, hb => by simp at hb
  | h :: x, y :: a, z :: b, ha, hb => by
    rw [List.cons_prefix_cons] at ha hb
    rw [lcp, if_pos (by rw [← ha.1, ← hb.1]), List.length_cons]
    have := lcp_pre ha.2 hb.2
    omega
/-- past what is alike the lesser one stays the lesser one -/
theorem lt_take : ∀ {a b : List Nat} {m : Nat}, a < b → lcp a b < m → a < b.take m
  | [], [], m, h, _ => absurd h (List.lt_irrefl _)
  | [], y :: b, m + 1, _, _ => by
    rw [List.take_succ_cons]
    exact List.nil_lt_cons _ _
  | [], y :: b, 0, _, h => absurd h (Nat.not_lt_zero _)
  | x :: a, [], m, h, _ => absurd h (List.not_lt_nil _)
  | x :: a, y :: b, 0, _, h => absurd h (Nat.not_lt_zero _)
  | x :: a, y :: b, m + 1, h, hm => by
    rw [List.take_succ_cons]
    rw [List.cons_lt_cons_iff] at h ⊢
    rcases h with h | ⟨h1, h2⟩
    · exact .inl h
    · right
      refine ⟨h1, lt_take h2 ?_⟩
      rw [lcp, if_pos h1] at hm
      omega
theorem take_lt : ∀ {b : List Nat} {m n : Nat}, m < n → m < b.length → b.take m < b.take n
  | [], m, n, _, h => absurd h (Nat.not_lt_zero _)
  | y :: b, 0, n + 1, _, _ => by
    rw [List.take_zero, List.take_succ_cons]
    exact List.nil_lt_cons _ _
  | y :: b, m + 1, n + 1, h, h2 => by
    rw [List.take_succ_cons, List.take_succ_cons, List.cons_lt_cons_iff]
    exact .inr ⟨rfl, take_lt (b := b) (by omega) (by rw [List.length_cons] at h2; omega)⟩
  | y :: b, m, 0, h, _ => absurd h (Nat.not_lt_zero _)
theorem take_le (b : List Nat) (m : Nat) : ¬ b < b.take m := by
  by_cases h : m < b.length
  · intro q
    have h1 := take_lt (b := b) h h
    rw [List.take_length] at h1
    exact List.lt_irrefl _ (List.lt_trans q h1)
  · rw [List.take_of_length_le (by omega)]
    exact List.lt_irrefl _
/-- what begins two texts begins each one between them -/
theorem pre_mid : ∀ {x a b c : List Nat}, a < b → b < c → x <+: a → x <+: c → x <+: b
  | [], _, _, _, _, _, _, _ => List.nil_prefix
  | h :: x, [], _, _, _, _, ha, _ => by simp at ha
  | h :: x, _ :: _, [], _, hab, _, _, _ => absurd hab (List.not_lt_nil _)
  | h :: x, _ :: _, _ :: _, [], _, _, _, hc => by simp at hc
  | h :: x, p :: a, q :: b, r :: c, hab, hbc, ha, hc => by
    rw [List.cons_prefix_cons] at ha hc ⊢
    rw [List.cons_lt_cons_iff] at hab hbc
    rcases hab with h1 | ⟨h1, h2⟩
    · rcases hbc with h3 | ⟨h3, _⟩ <;> omega
    · rcases hbc with h3 | ⟨h3, h4⟩
      · omega
      · exact ⟨by omega, pre_mid h2 h4 ha.2 hc.2⟩
/-- the ends with what each has alike with the one ahead -/
def pairsG : List Nat → List (List Nat) → List (List Nat × Nat)
  | _, [] => []
  | last, e :: r => (e, lcp last e) :: pairsG e r
/-- the pieces that an end is the first one to begin with -/
def blk (p : List Nat × Nat) : List (List Nat) := (List.range (p.1.length - p.2)).map fun k => p.1.take (p.2 + 1 + k)
def allG (ps : List (List Nat × Nat)) : List (List Nat) := ps.flatMap blk
theorem blk_len (p : List Nat × Nat) : (blk p).length = p.1.length - p.2 := by
  unfold blk
  simp
theorem mem_blk {p : List Nat × Nat} {x : List Nat} : x ∈ blk p ↔ ∃ m, p.2 < m ∧ m ≤ p.1.length ∧ x = p.1.take m := by
  unfold blk
  rw [List.mem_map]
  constructor
  · rintro ⟨k, hk, rfl⟩
    rw [List.mem_range] at hk
    exact ⟨p.2 + 1 + k, by omega, by omega, rfl⟩
  · rintro ⟨m, h1, h2, rfl⟩
    exact ⟨m - p.2 - 1, by rw [List.mem_range]; omega, by congr 1; omega⟩
theorem blk_up (p : List Nat × Nat) : (blk p).Pairwise (· < ·) := by
  unfold blk
  rw [List.pairwise_map]
  have h : ∀ n, n ≤ p.1.length - p.2 → (List.range n).Pairwise (fun a b => p.1.take (p.2 + 1 + a) < p.1.take (p.2 + 1 + b)) := by
    intro n
    induction n with
    | zero => intro _; exact List.Pairwise.nil
    | succ n ih =>
      intro hn
      rw [List.range_succ, List.pairwise_append]
      refine ⟨ih (by omega), List.pairwise_singleton _ _, fun a ha b hb => ?_⟩
      rw [List.mem_range] at ha
      rw [List.mem_singleton] at hb
      subst hb
      exact take_lt (by omega) (by omega)
  exact h _ (Nat.le_refl _)
/-- rising without equals -/
def UpS (l : List (List Nat)) : Prop := l.Pairwise (· < ·)
theorem all_mem : ∀ (l : List (List Nat)) (last x : List Nat), UpS l → (∀ e ∈ l, last < e) → (x ∈ allG (pairsG last l) ↔ ¬ x <+: last ∧ ∃ e ∈ l, x <+: e)
  | [], last, x, _, _ => by simp [allG, pairsG]
  | e :: r, last, x, hu, hl => by
    have hu' := List.pairwise_cons.mp hu
    have ih := all_mem r e x hu'.2 hu'.1
    have h1 : last < e := hl e List.mem_cons_self
    show x ∈ (pairsG last (e :: r)).flatMap blk ↔ _
    rw [pairsG, List.flatMap_cons, List.mem_append]
    show (x ∈ blk (e, lcp last e) ∨ x ∈ allG (pairsG e r)) ↔ _
    rw [ih, mem_blk]
    constructor
    · rintro (⟨m, hm1, hm2, rfl⟩ | ⟨hn, e', he', hp⟩)
      · refine ⟨fun q => ?_, e, List.mem_cons_self, List.take_prefix _ _⟩
        have := lcp_pre q (List.take_prefix m e)
        rw [List.length_take] at this
        have hm2' : m ≤ e.length := hm2
        have hm1' : lcp last e < m := hm1
        omega
      · exact ⟨fun q => hn (pre_mid h1 (hu'.1 e' he') q hp), e', List.mem_cons_of_mem _ he', hp⟩
    · rintro ⟨hn, e', he', hp⟩
      by_cases hx : x <+: e
      · left
        refine ⟨x.length, ?_, hx.length_le, (List.prefix_iff_eq_take.mp hx)⟩
        show lcp last e < x.length
        refine Nat.lt_of_not_le fun q => hn ?_
        rw [List.prefix_iff_eq_take.mp hx]
        have e1 : e.take x.length = last.take x.length := by
          have e2 := congrArg (List.take x.length) (lcp_take last e)
          rw [List.take_take, List.take_take, Nat.min_eq_left q] at e2
          exact e2.symm
        rw [e1]
        exact List.take_prefix _ _
      · right
        rcases List.mem_cons.mp he' with h | h
        · rw [h] at hp
          exact absurd hp hx
        · exact ⟨hx, e', h, hp⟩
theorem all_gt : ∀ (l : List (List Nat)) (last x : List Nat), UpS l → (∀ e ∈ l, last < e) → x ∈ allG (pairsG last l) → last < x
  | [], last, x, _, _, h => by simp [allG, pairsG] at h
  | e :: r, last, x, hu, hl, h => by
    have hu' := List.pairwise_cons.mp hu
    have h1 : last < e := hl e List.mem_cons_self
    have h' : x ∈ blk (e, lcp last e) ∨ x ∈ allG (pairsG e r) := by
      have : x ∈ (pairsG last (e :: r)).flatMap blk := h
      rw [pairsG, List.flatMap_cons, List.mem_append] at this
      exact this
    rcases h' with h' | h'
    · obtain ⟨m, hm1, _, rfl⟩ := mem_blk.mp h'
      exact lt_take h1 hm1
    · exact List.lt_trans h1 (all_gt r e x hu'.2 hu'.1 h')
theorem all_up : ∀ (l : List (List Nat)) (last : List Nat), UpS l → (∀ e ∈ l, last < e) → UpS (allG (pairsG last l))
  | [], last, _, _ => List.Pairwise.nil
  | e :: r, last, hu, hl => by
    have hu' := List.pairwise_cons.mp hu
    show ((pairsG last (e :: r)).flatMap blk).Pairwise (· < ·)
    rw [pairsG, List.flatMap_cons, List.pairwise_append]
    refine ⟨blk_up _, all_up r e hu'.2 hu'.1, fun a ha b hb => ?_⟩
    obtain ⟨m, _, _, rfl⟩ := mem_blk.mp ha
    have h2 : e < b := all_gt r e b hu'.2 hu'.1 hb
    have h3 : ¬ e < e.take m := take_le e m
    show e.take m < b
    by_cases q : e.take m < b
    · exact q
    · have a1 : b ≤ e.take m := List.not_lt.mp q
      have a2 : e.take m ≤ e := List.not_lt.mp h3
      exact absurd h2 (List.not_lt.mpr (List.le_trans a1 a2))
theorem all_len : ∀ ps : List (List Nat × Nat), (allG ps).length = (ps.map fun p => p.1.length - p.2).sum
  | [] => rfl
  | p :: ps => by
    show ((p :: ps).flatMap blk).length = _
    rw [List.flatMap_cons, List.length_append, blk_len, List.map_cons, List.sum_cons]
    have := all_len ps
    unfold allG at this
    rw [this]
/-- how many of a length -/
theorem blk_count (p : List Nat × Nat) (n : Nat) (hn : 0 < n) : ((blk p).filter fun x => x.length == n).length = if p.2 < n ∧ n ≤ p.1.length then 1 else 0 := by
  unfold blk
  rw [List.filter_map, List.length_map]
  have e : ∀ k, k < p.1.length - p.2 → ((fun x : List Nat => x.length == n) ∘ fun k => p.1.take (p.2 + 1 + k)) k = (k + (p.2 + 1) == n) := by
    intro k hk
    show ((p.1.take (p.2 + 1 + k)).length == n) = _
    rw [List.length_take, Nat.min_eq_left (by omega), Nat.add_comm]
  rw [List.filter_congr (q := fun k => k + (p.2 + 1) == n) (fun k hk => e k (List.mem_range.mp hk))]
  have h : ∀ m, ((List.range m).filter fun k => k + (p.2 + 1) == n).length = if p.2 < n ∧ n ≤ m + p.2 then 1 else 0 := by
    intro m
    induction m with
    | zero => rw [if_neg (by omega)]; rfl
    | succ m ih =>
      rw [List.range_succ, List.filter_append, List.length_append, ih]
      by_cases c : m + (p.2 + 1) = n
      · rw [if_neg (by omega), if_pos (by omega)]
        simp [c]
      · have e1 : (m + (p.2 + 1) == n) = false := by simp; omega
        have e2 : ([m].filter fun k => k + (p.2 + 1) == n) = [] := by
          rw [List.filter_cons, e1]
          rfl
        rw [e2]
        by_cases d : p.2 < n ∧ n ≤ m + p.2
        · rw [if_pos d, if_pos (by omega)]; rfl
        · rw [if_neg d, if_neg (by omega)]; rfl
  rw [h]
  by_cases c : p.2 < n ∧ n ≤ p.1.length
  · rw [if_pos c, if_pos (by omega)]
  · rw [if_neg c, if_neg (by omega)]
theorem all_count (n : Nat) (hn : 0 < n) : ∀ ps : List (List Nat × Nat), ((allG ps).filter fun x => x.length == n).length = (ps.filter fun p => decide (p.2 < n ∧ n ≤ p.1.length)).length
  | [] => rfl
  | p :: ps => by
    show (((p :: ps).flatMap blk).filter _).length = _
    rw [List.flatMap_cons, List.filter_append, List.length_append, blk_count p n hn]
    have ih := all_count n hn ps
    unfold allG at ih
    rw [ih, List.filter_cons]
    by_cases c : p.2 < n ∧ n ≤ p.1.length
    · rw [if_pos c, if_pos (decide_eq_true c), List.length_cons, Nat.add_comm]
    · rw [if_neg c, if_neg (by rw [decide_eq_true_eq]; exact c), Nat.zero_add]
theorem ups_uniq : ∀ {l m : List (List Nat)}, UpS l → UpS m → (∀ x, x ∈ l ↔ x ∈ m) → l = m
  | [], [], _, _, _ => rfl
  | [], y :: m, _, _, h => by have := (h y).mpr List.mem_cons_self; cases this
  | x :: l, [], _, _, h => by have := (h x).mp List.mem_cons_self; cases this
  | x :: l, y :: m, hl, hm, h => by
    have a := List.pairwise_cons.mp hl
    have b := List.pairwise_cons.mp hm
    have e : x = y := by
      rcases List.mem_cons.mp ((h x).mp List.mem_cons_self) with e | e
      · exact e
      · rcases List.mem_cons.mp ((h y).mpr List.mem_cons_self) with f | f
        · exact f.symm
        · exact absurd (List.lt_trans (a.1 y f) (b.1 x e)) (List.lt_irrefl _)
    subst e
    rw [ups_uniq a.2 b.2 fun z => ?_]
    constructor
    · intro hz
      rcases List.mem_cons.mp ((h z).mp (List.mem_cons_of_mem _ hz)) with e | e
      · exact absurd (e ▸ a.1 z hz) (List.lt_irrefl _)
      · exact e
    · intro hz
      rcases List.mem_cons.mp ((h z).mpr (List.mem_cons_of_mem _ hz)) with e | e
      · exact absurd (e ▸ b.1 z hz) (List.lt_irrefl _)
      · exact e
/-- where the likeness ends -/
theorem lcp_get : ∀ {a b : List Nat} {i : Nat}, i < lcp a b → ∃ c, a[i]? = some c ∧ b[i]? = some c
  | [], _, i, h => by simp [lcp] at h
  | x :: a, [], i, h => by simp [lcp] at h
  | x :: a, y :: b, i, h => by
    rw [lcp] at h
    split at h
    · rename_i e
      cases i with
      | zero => exact ⟨x, rfl, by rw [e]; rfl⟩
      | succ i =>
        obtain ⟨c, h1, h2⟩ := lcp_get (a := a) (b := b) (i := i) (by omega)
        exact ⟨c, h1, h2⟩
    · omega
theorem lcp_stop : ∀ {a b : List Nat}, a < b → lcp a b < a.length → ∃ c d, a[lcp a b]? = some c ∧ b[lcp a b]? = some d ∧ c ≠ d
  | [], _, _, h => by simp at h
  | x :: a, [], h, _ => absurd h (List.not_lt_nil _)
  | x :: a, y :: b, h, hl => by
    rw [List.cons_lt_cons_iff] at h
    by_cases e : x = y
    · have e1 : lcp (x :: a) (y :: b) = lcp a b + 1 := by rw [lcp, if_pos e]
      rw [e1] at hl ⊢
      rcases h with h | ⟨_, h⟩
      · omega
      · obtain ⟨c, d, h1, h2, h3⟩ := lcp_stop h (by rw [List.length_cons] at hl; omega)
        exact ⟨c, d, h1, h2, h3⟩
    · have e1 : lcp (x :: a) (y :: b) = 0 := by rw [lcp, if_neg e]
      rw [e1]
      exact ⟨x, y, rfl, rfl, e⟩
theorem pairs_len : ∀ (last : List Nat) (l : List (List Nat)), (pairsG last l).length = l.length
  | _, [] => rfl
  | last, e :: r => by rw [pairsG, List.length_cons, pairs_len e r, List.length_cons]
/-- the one ahead of the i-th -/
def prev (last : List Nat) (l : List (List Nat)) : Nat → List Nat
  | 0 => last
  | i + 1 => l.getD i []
theorem pairs_get : ∀ (last : List Nat) (l : List (List Nat)) (i : Nat) (e : List Nat), l[i]? = some e → (pairsG last l)[i]? = some (e, lcp (prev last l i) e)
  | _, [], i, e, h => by simp at h
  | last, e0 :: r, 0, e, h => by
    cases h
    rfl
  | last, e0 :: r, i + 1, e, h => by
    have h' : r[i]? = some e := h
    have ih := pairs_get e0 r i e h'
    rw [pairsG]
    show (pairsG e0 r)[i]? = _
    rw [ih]
    congr 2
    cases i with
    | zero => rfl
    | succ i => rfl
end WP
namespace WP
open PySem PySem.Spec PyProof.Rows L2 Evl
open SX (S S_len S_cat S_inj S_tl)
def endsL (w : List Nat) : List (List Nat) := (List.range w.length).map fun i => w.drop i
def sends (w : List Nat) : List (List Nat) := srt (endsL w)
def endsP (w : List Nat) : List (List Nat × Nat) := pairsG [] (sends w)
def piecesF (w : List Nat) : List (List Nat) := [] :: allG (endsP w)
theorem endsL_mem {w e : List Nat} : e ∈ endsL w ↔ ∃ i, i < w.length ∧ e = w.drop i := by
  unfold endsL
  rw [List.mem_map]
  constructor
  · rintro ⟨i, hi, rfl⟩
    exact ⟨i, List.mem_range.mp hi, rfl⟩
  · rintro ⟨i, hi, rfl⟩
    exact ⟨i, List.mem_range.mpr hi, rfl⟩
theorem endsL_nd (w : List Nat) : (endsL w).Nodup := by
  unfold endsL
  have h : ∀ n, n ≤ w.length → ((List.range n).map fun i => w.drop i).Nodup := by
    intro n
    induction n with
    | zero => intro _; exact List.nodup_nil
    | succ n ih =>
      intro hn
      rw [List.range_succ, List.map_append, List.nodup_append]
      refine ⟨ih (by omega), by simp, fun a ha b hb => ?_⟩
      obtain ⟨i, hi, rfl⟩ := List.mem_map.mp ha
      rw [List.mem_range] at hi
      obtain ⟨j, hj, rfl⟩ := List.mem_map.mp hb
      rw [List.mem_singleton] at hj
      subst hj
      intro q
      have := congrArg List.length q
      rw [List.length_drop, List.length_drop] at this
      omega
  exact h _ (Nat.le_refl _)
theorem up_ups : ∀ {l : List (List Nat)}, Up l → l.Nodup → UpS l
  | [], _, _ => List.Pairwise.nil
  | x :: l, h, n => by
    have a := List.pairwise_cons.mp h
    have b := List.nodup_cons.mp n
    refine List.pairwise_cons.mpr ⟨fun y hy => ?_, up_ups a.2 b.2⟩
    by_cases q : x < y
    · exact q
    · have e : x = y := List.le_antisymm (List.not_lt.mp (a.1 y hy)) (List.not_lt.mp q)
      rw [e] at b
      exact absurd hy b.1
theorem srt_ups {l : List (List Nat)} (n : l.Nodup) : UpS (srt l) := up_ups (srt_up l) ((srt_perm l).nodup_iff.mpr n)
theorem sends_up (w : List Nat) : UpS (sends w) := srt_ups (endsL_nd w)
theorem sends_mem {w e : List Nat} : e ∈ sends w ↔ ∃ i, i < w.length ∧ e = w.drop i := srt_mem.trans endsL_mem
theorem sends_ne {w e : List Nat} (h : e ∈ sends w) : [] < e := by
  obtain ⟨i, hi, rfl⟩ := sends_mem.mp h
  cases q : w.drop i with
  | nil =>
    have := congrArg List.length q
    rw [List.length_drop, List.length_nil] at this
    omega
  | cons x r => exact List.nil_lt_cons _ _
theorem sends_len (w : List Nat) : (sends w).length = w.length := by
  unfold sends endsL
  rw [srt_len]
  simp
theorem pieces_mem {w x : List Nat} : x ∈ piecesF w ↔ x <:+: w := by
  unfold piecesF endsP
  rw [List.mem_cons, all_mem (sends w) [] x (sends_up w) (fun e he => sends_ne he)]
  constructor
  · rintro (rfl | ⟨_, e, he, hp⟩)
    · exact List.nil_infix
    · obtain ⟨i, _, rfl⟩ := sends_mem.mp he
      exact hp.isInfix.trans (List.drop_suffix i w).isInfix
  · intro h
    by_cases hx : x = []
    · exact .inl hx
    · right
      refine ⟨fun q => hx (List.prefix_nil.mp q), ?_⟩
      obtain ⟨a, b, e⟩ := h
      refine ⟨w.drop a.length, sends_mem.mpr ⟨a.length, ?_, rfl⟩, ?_⟩
      · rw [← e, List.length_append, List.length_append]
        have := List.length_pos_iff.mpr hx
        omega
      · rw [← e, List.append_assoc, List.drop_left]
        exact List.prefix_append _ _
theorem pieces_up (w : List Nat) : UpS (piecesF w) := by
  unfold piecesF endsP
  refine List.pairwise_cons.mpr ⟨fun x hx => ?_, all_up _ _ (sends_up w) fun e he => sends_ne he⟩
  exact all_gt _ _ x (sends_up w) (fun e he => sends_ne he) hx
theorem pieces_of {w : List Nat} {ks : List (List Nat)} (n : ks.Nodup) (h : ∀ x, x ∈ ks ↔ x <:+: w) : srt ks = piecesF w :=
  ups_uniq (srt_ups n) (pieces_up w) fun x => srt_mem.trans ((h x).trans pieces_mem.symm)
/-! ### a list of pairs of a text and a number -/
def TP (es : List (List Nat × Nat)) (xs : List V) (H : Hp) : Prop := xs.length = es.length ∧ ∀ (i : Nat) (e : List Nat × Nat), es[i]? = some e → ∃ p : Addr, xs[i]? = some (V.ref p) ∧ H p = some (.tup [vS e.1, vN e.2])
theorem TP.ex {es : List (List Nat × Nat)} {xs : List V} {H H' : Hp} (h : TP es xs H) (e : Ex H H') : TP es xs H' := ⟨h.1, fun i x hx => by
  obtain ⟨p, h1, h2⟩ := h.2 i x hx
  exact ⟨p, h1, e _ _ h2⟩⟩
theorem TP.at {es : List (List Nat × Nat)} {xs : List V} {H : Hp} (h : TP es xs H) {i : Nat} {x : V} (hx : xs[i]? = some x) : ∃ e p, es[i]? = some e ∧ x = .ref p ∧ H p = some (.tup [vS e.1, vN e.2]) := by
  have hi : i < es.length := by
    have := (List.getElem?_eq_some_iff.mp hx).1
    rw [h.1] at this
    exact this
  obtain ⟨p, h1, h2⟩ := h.2 i _ (List.getElem?_eq_getElem hi)
  rw [hx] at h1
  exact ⟨_, p, List.getElem?_eq_getElem hi, Option.some.inj h1, h2⟩
theorem TP.upd {es : List (List Nat × Nat)} {xs : List V} {H : Hp} {D : Addr} {a a' : List V} (h : TP es xs H) (hd : H D = some (.lst a)) : TP es xs (upd H D (.lst a')) := ⟨h.1, fun i x hx => by
  obtain ⟨p, h1, h2⟩ := h.2 i x hx
  exact ⟨p, h1, by rw [upd_ne (fun e => by rw [e, hd] at h2; cases h2)]; exact h2⟩⟩
theorem TP.snoc {es : List (List Nat × Nat)} {xs : List V} {H : Hp} {e : List Nat × Nat} {p : Addr} (h : TP es xs H) (hp : H p = some (.tup [vS e.1, vN e.2])) : TP (es ++ [e]) (xs ++ [.ref p]) H := by
  refine ⟨by rw [List.length_append, List.length_append, h.1]; rfl, fun i x hx => ?_⟩
  by_cases c : i < es.length
  · rw [List.getElem?_append_left c] at hx
    obtain ⟨q, h1, h2⟩ := h.2 i x hx
    exact ⟨q, by rw [List.getElem?_append_left (by rw [h.1]; exact c)]; exact h1, h2⟩
  · rw [List.getElem?_append_right (by omega)] at hx
    have hi : i - es.length = 0 := by
      cases q : i - es.length with
      | zero => rfl
      | succ n => rw [q] at hx; cases hx
    rw [hi] at hx
    cases hx
    refine ⟨p, ?_, hp⟩
    rw [List.getElem?_append_right (by rw [h.1]; omega), h.1, hi]
    rfl
def sp_ends : Sp := fun vs H Q _ => ∃ w : List Nat, vs = [vS w] ∧ w.length ≤ 100 ∧ ∀ xs p H2, H p = none → Ex H H2 → H2 p = some (.lst xs) → TP (endsP w) xs H2 → Q (.ref p) H2
end WP
namespace WP
open PySem PySem.Spec PyProof.Rows L2 Evl
open SX (S S_len S_cat S_inj S_tl)
/-! ### a dict whose keys are texts -/
section
variable {K : PySem.W.Frag} {σ : L2.St} {H H' : Hp} {ta tb te tx td ty tv tl : TE} {t u : TT} {v : V} {tu tz : TS} {D : Ends}
theorem s_putK {p : Addr} {kvs : List (Key × V)} {k : Key} (hd : H p = some (.dK kvs)) (h1 : Ev td σ H (.ref p)) (h2 : Ev ty σ H (kV k)) (h3 : Ev tv σ H v) (hz : kvs.length < 100000) (kk : ∀ H1, Ex H H1 → D.nx σ (upd H1 p (.dK (putK kvs k v)))) : sDPut td ty tv D σ H :=
  h3 H (Ex.refl H) _ fun H1 e1 => h1 H1 e1 _ fun H2 e2 => h2 H2 (e1.trans e2) _ fun H3 e3 => ⟨p, _, rfl, DPut.k (((e1.trans e2).trans e3) _ _ hd) (sz_lt hz), kk H3 ((e1.trans e2).trans e3)⟩
theorem q_asgDK {i : Nat} (k : ∀ p H1, H p = none → Ex H H1 → H1 p = some (.dK []) → tz D (σ.set i (some (.ref p))) H1) : tSeq (tAsg tDNewK (gName i)) tz D σ H := fun p hp => k p _ hp (Ex.new hp) upd_same
theorem el_sortedD {p : Addr} {kvs : List (Key × V)} {ks : List (List Nat)} (h : Ev ta σ H (.ref p)) (hd : H p = some (.dK kvs)) (hk : kvs.map (·.1) = ks.map (fun l => Sum.inr (S l))) (hn : ks.length ≤ 1000000) : EvL (tCB rSortedDx (tCons ta tNil)) σ H ((srt ks).map vS) := fun H1 e Q q =>
  h H1 e _ fun H2 e2 => ⟨p, kvs, ks, rfl, .inl ((e.trans e2) _ _ hd), hk, hn, fun l hl => q l _ (fresh_back e2 hl) (e2.trans (Ex.new hl)) upd_same⟩
end
def addK (ks : List (List Nat)) (t : List Nat) : List (List Nat) := if t ∈ ks then ks else ks ++ [t]
theorem addK_mem {ks : List (List Nat)} {t x : List Nat} : x ∈ addK ks t ↔ x ∈ ks ∨ x = t := by
  unfold addK
  split
  · rename_i h
    constructor
    · exact .inl
    · rintro (h1 | rfl)
      · exact h1
      · exact h
  · rw [List.mem_append, List.mem_singleton]
theorem addK_nd {ks : List (List Nat)} {t : List Nat} (h : ks.Nodup) : (addK ks t).Nodup := by
  unfold addK
  split
  · exact h
  · rename_i c
    rw [List.nodup_append]
    refine ⟨h, by simp, fun a ha b hb q => ?_⟩
    rw [List.mem_singleton] at hb
    rw [q, hb] at ha
    exact c ha
theorem addK_len (ks : List (List Nat)) (t : List Nat) : (addK ks t).length ≤ ks.length + 1 := by
  unfold addK
  split
  · omega
  · simp
theorem keys_any {kvs : List (Key × V)} {ks : List (List Nat)} (h : kvs.map (·.1) = ks.map (fun l => Sum.inr (S l))) (t : List Nat) : (kvs.any fun kv => decide (kv.1 = Sum.inr (S t))) = decide (t ∈ ks) := by
  have e : (kvs.any fun kv => decide (kv.1 = Sum.inr (S t))) = (kvs.map (·.1)).any fun k => decide (k = Sum.inr (S t)) := by
    rw [List.any_map]
    rfl
  rw [e, h, List.any_map]
  rw [Bool.eq_iff_iff, List.any_eq_true, decide_eq_true_eq]
  constructor
  · rintro ⟨x, hx, q⟩
    have : (Sum.inr (S x) : Key) = Sum.inr (S t) := of_decide_eq_true q
    rw [← S_inj (Sum.inr.inj this)]
    exact hx
  · intro hx
    exact ⟨t, hx, decide_eq_true rfl⟩
theorem keys_put {kvs : List (Key × V)} {ks : List (List Nat)} {t : List Nat} {v : V} (h : kvs.map (·.1) = ks.map (fun l => Sum.inr (S l))) : (putK kvs (Sum.inr (S t)) v).map (·.1) = (addK ks t).map (fun l => Sum.inr (S l)) := by
  unfold putK addK
  rw [keys_any h t]
  by_cases c : t ∈ ks
  · rw [if_pos (decide_eq_true c), if_pos c, ← h, List.map_map]
    refine List.map_congr_left fun kv _ => ?_
    show (if kv.1 = Sum.inr (S t) then (kv.1, v) else kv).1 = kv.1
    split <;> rfl
  · rw [if_neg (by rw [decide_eq_true_eq]; exact c), if_neg c, List.map_append, List.map_append, h]
    rfl
theorem infix_cut {x w : List Nat} : x <:+: w ↔ ∃ b e, b ≤ e ∧ e ≤ w.length ∧ x = (w.drop b).take (e - b) := by
  constructor
  · rintro ⟨a, c, rfl⟩
    refine ⟨a.length, a.length + x.length, by omega, by simp, ?_⟩
    rw [List.append_assoc, List.drop_left, Nat.add_sub_cancel_left, List.take_left]
  · rintro ⟨b, e, _, _, rfl⟩
    exact (List.take_prefix _ _).isInfix.trans (List.drop_suffix _ _).isInfix
/-! ### walks over pairs of a text and a number -/
def EvP (te : TE) (σ : L2.St) (H : Hp) (es : List (List Nat × Nat)) : Prop := ∀ H1, Ex H H1 → ∀ Q : VK, (∀ xs p H2, H1 p = none → Ex H1 H2 → H2 p = some (.lst xs) → TP es xs H2 → Q (.ref p) H2) → te σ H1 Q
theorem given_of {α : Type} (es : List α) (f : α → Bool) (v : α → V) : given es.length (fun k => match es[k]? with | some e => f e | none => false) (fun k => match es[k]? with | some e => v e | none => .non) = (es.filter f).map v := by
  have h : ∀ m, m ≤ es.length → given m (fun k => match es[k]? with | some e => f e | none => false) (fun k => match es[k]? with | some e => v e | none => .non) = ((es.take m).filter f).map v := by
    intro m
    induction m with
    | zero => intro _; rfl
    | succ m ih =>
      intro hm
      obtain ⟨e, he⟩ : ∃ e, es[m]? = some e := ⟨_, List.getElem?_eq_getElem (by omega)⟩
      rw [List.take_add_one, he, List.filter_append, List.map_append, ← ih (by omega)]
      cases q : f e with
      | true =>
        rw [given_yes (by rw [he]; exact q), he]
        simp [q]
      | false =>
        rw [given_no (by rw [he]; exact q)]
        simp [q]
  rw [h _ (Nat.le_refl _), List.take_length]
section
variable {K : PySem.W.Frag} {σ : L2.St} {H H' : Hp} {ta tb te tx td ty tv tl : TE} {t u : TT} {v : V} {tu tz : TS} {D : Ends}
theorem ep_ends {w : List Nat} {E : XK} (h : Ev tx σ H (vS w)) (hw : w.length ≤ 100) : EvP (tCall sp_ends [] E (tCons tx tNil)) σ H (endsP w) := fun H1 e Q q =>
  h H1 e _ fun H2 e2 => ⟨w, rfl, hw, fun xs p H3 hp e3 h3 hT => q xs p H3 (fresh_back e2 hp) (e2.trans e3) h3 hT⟩
theorem el_lcT {es : List (List Nat × Nat)} {i j : Nat} {vs : List Nat} (f : List Nat × Nat → Bool) (v : List Nat × Nat → V) (h : EvP tl σ H es) (hz : es.length ≤ 40000) (hw : ∀ x y, wipe (((wipe σ vs).set i (some x)).set j (some y)) vs = wipe σ vs)
    (ht : ∀ e H1, e ∈ es → Ex H H1 → EvT t (((wipe σ vs).set i (some (vS e.1))).set j (some (vN e.2))) H1 (f e)) (he : ∀ e H1, e ∈ es → Ex H H1 → f e = true → Ev te (((wipe σ vs).set i (some (vS e.1))).set j (some (vN e.2))) H1 (v e)) :
    EvL (tLc (iList K tl) (gTup K 2 (gCons (gName i) (gCons (gName j) gNil))) t te vs) σ H ((es.filter f).map v) := fun H0 e0 Q q => by
  rw [← given_of] at q
  refine h H0 e0 _ fun xs a H1 ha e1 hx hT => ⟨a, rfl, ⟨xs, sq_of hx⟩, fun Dl hD => ?_⟩
  rw [← hT.1] at q
  refine lc_list (xs := xs) (Cw H1 _ _ Dl) ⟨hD, Ex.new hD, upd_same⟩ (fun i H' _ p => sq_of (p.2.1 _ _ hx)) (fun k x H' hk p => ?_) (fun H' p => q Dl H' (fresh_back e1 p.1) (e1.trans p.2.1) p.2.2)
  obtain ⟨e, pa, he', rfl, hpa⟩ := hT.at hk
  refine ⟨pa, _, rfl, st_of (p.2.1 _ _ hpa), rfl, _, _, rfl, _, _, rfl, rfl, hw _ _, cw_turn p (by have := (List.getElem?_eq_some_iff.mp hk).1; rw [hT.1] at this; omega) ?_ ?_⟩
  · rw [he']
    exact ht e H1 (List.mem_of_getElem? he') (e0.trans e1)
  · rw [he']
    exact he e H1 (List.mem_of_getElem? he') (e0.trans e1)
theorem q_forP {es : List (List Nat × Nat)} {i j : Nat} (h : EvP tl σ H es) (I : Nat → L2.St → Prop) (i0 : I 0 σ)
    (hs : ∀ G k e σ' H', es[k]? = some e → Ex H G → Ex G H' → I k σ' → tu { D with nx := fun σ3 H3 => I (k + 1) σ3 ∧ Ex G H3, ct := fun σ3 H3 => I (k + 1) σ3 ∧ Ex G H3, bk := tz D } ((σ'.set i (some (vS e.1))).set j (some (vN e.2))) H')
    (hd : ∀ σ' H', I es.length σ' → Ex H H' → tz D σ' H') : tSeq (tFor (iList K tl) (gTup K 2 (gCons (gName i) (gCons (gName j) gNil))) tu) tz D σ H := h H (Ex.refl H) _ fun xs a H1 ha e1 hx hT =>
  ⟨a, rfl, ⟨xs, sq_of hx⟩, for_list (D := { D with nx := tz D }) (fun k σ' H' => I k σ' ∧ Ex H1 H') ⟨i0, Ex.refl _⟩ (fun _ σ' H' _ q => sq_of (q.2 _ _ hx)) (fun k x σ' H' hi q => by
    obtain ⟨e, pa, he', rfl, hpa⟩ := hT.at hi
    exact ⟨pa, _, rfl, st_of (q.2 _ _ hpa), rfl, _, _, rfl, _, _, rfl, rfl, hs H1 k e σ' H' he' e1 q.2 q.1⟩) (fun σ' H' q => hd σ' H' (by rw [← hT.1]; exact q.1) (e1.trans q.2))⟩
end
def sp_pieces : Sp := fun vs H Q _ => ∃ w : List Nat, vs = [vS w] ∧ w.length ≤ 100 ∧ RetL ((piecesF w).map vS) H Q
end WP
namespace WP
open PySem PySem.Spec PyProof.Rows L2 Evl
open SX (S S_len S_cat S_inj S_tl)
theorem ends_at {w : List Nat} {k : Nat} {e : List Nat × Nat} (h : (endsP w)[k]? = some e) : (sends w)[k]? = some e.1 ∧ e.2 = lcp (prev [] (sends w) k) e.1 := by
  have hk : k < (sends w).length := by
    have := (List.getElem?_eq_some_iff.mp h).1
    unfold endsP at this
    rw [pairs_len] at this
    exact this
  have h1 := List.getElem?_eq_getElem hk
  have h2 := pairs_get [] (sends w) k _ h1
  have h3 : (endsP w)[k]? = some ((sends w)[k], lcp (prev [] (sends w) k) (sends w)[k]) := h2
  rw [h] at h3
  have h4 := Option.some.inj h3
  rw [h4]
  exact ⟨h1, rfl⟩
theorem ends_ok {w : List Nat} {e : List Nat × Nat} (h : e ∈ endsP w) : e.2 ≤ e.1.length ∧ e.1.length ≤ w.length ∧ e.1 <:+ w := by
  obtain ⟨k, hk⟩ := List.getElem?_of_mem h
  obtain ⟨h1, h2⟩ := ends_at hk
  obtain ⟨i, hi, q⟩ := sends_mem.mp (List.mem_of_getElem? h1)
  refine ⟨by rw [h2]; exact lcp_le2 _ _, ?_, ?_⟩
  · rw [q, List.length_drop]; omega
  · rw [q]; exact List.drop_suffix _ _
theorem ends_len (w : List Nat) : (endsP w).length = w.length := by
  unfold endsP
  rw [pairs_len, sends_len]
theorem all_app (a b : List (List Nat × Nat)) : allG (a ++ b) = allG a ++ allG b := by
  unfold allG
  rw [List.flatMap_append]
theorem all_cons (e : List Nat × Nat) (r : List (List Nat × Nat)) : allG (e :: r) = blk e ++ allG r := by
  unfold allG
  rw [List.flatMap_cons]
theorem drop_at {α : Type} {l : List α} {k : Nat} {e : α} (h : l[k]? = some e) : l.drop k = e :: l.drop (k + 1) := by
  obtain ⟨hk, he⟩ := List.getElem?_eq_some_iff.mp h
  rw [← he]
  exact List.drop_eq_getElem_cons hk
theorem blk_get {e : List Nat × Nat} {i : Nat} (h : i < e.1.length - e.2) : (blk e)[i]? = some (e.1.take (e.2 + 1 + i)) := by
  unfold blk
  rw [List.getElem?_map, List.getElem?_range h]
  rfl
/-- piece_by's turn -/
theorem all_here {w : List Nat} {k i : Nat} {e : List Nat × Nat} (h : (endsP w)[k]? = some e) (hi : i < e.1.length - e.2) : (allG ((endsP w).drop k))[i]? = some (e.1.take (e.2 + 1 + i)) := by
  rw [drop_at h, all_cons, List.getElem?_append_left (by rw [blk_len]; exact hi), blk_get hi]
theorem all_later {w : List Nat} {k i : Nat} {e : List Nat × Nat} (h : (endsP w)[k]? = some e) (hi : e.1.length - e.2 ≤ i) : (allG ((endsP w).drop k))[i]? = (allG ((endsP w).drop (k + 1)))[i - (e.1.length - e.2)]? := by
  rw [drop_at h, all_cons, List.getElem?_append_right (by rw [blk_len]; exact hi), blk_len]
theorem take_at {α : Type} {l : List α} {k : Nat} {e : α} (h : l[k]? = some e) : l.take (k + 1) = l.take k ++ [e] := by
  rw [List.take_add_one, h]
  rfl
theorem all_take_len {w : List Nat} {k : Nat} {e : List Nat × Nat} (h : (endsP w)[k]? = some e) : (allG ((endsP w).take (k + 1))).length = (allG ((endsP w).take k)).length + (e.1.length - e.2) := by
  rw [take_at h, all_app, List.length_append, all_cons, List.length_append, blk_len]
  rfl
theorem new_same {w t : List Nat} {k : Nat} {e : List Nat × Nat} (h : (endsP w)[k]? = some e) (ht : t ≠ []) (hn : ∀ x ∈ (endsP w).take k, ¬ t <+: x.1) (hp : t <+: e.1) : e.2 < t.length := by
  refine Nat.lt_of_not_le fun q => ?_
  obtain ⟨h1, h2⟩ := ends_at h
  rw [h2] at q
  have hq : t <+: prev [] (sends w) k := by
    have e1 := lcp_take (prev [] (sends w) k) e.1
    have e2 := congrArg (List.take t.length) e1
    rw [List.take_take, List.take_take, Nat.min_eq_left q, ← List.prefix_iff_eq_take.mp hp] at e2
    rw [← e2]
    exact List.take_prefix _ _
  cases k with
  | zero => exact ht (List.prefix_nil.mp hq)
  | succ k =>
    have hk : k < (endsP w).length := by have := (List.getElem?_eq_some_iff.mp h).1; omega
    have h3 := List.getElem?_eq_getElem hk
    obtain ⟨h4, _⟩ := ends_at h3
    refine hn (endsP w)[k] ?_ ?_
    · rw [take_at h3]
      exact List.mem_append_right _ List.mem_cons_self
    · have : prev [] (sends w) (k + 1) = ((endsP w)[k]).1 := by
        show (sends w).getD k [] = _
        rw [List.getD_eq_getElem?_getD, h4]
        rfl
      rw [← this]
      exact hq
/-- number_of's turn -/
theorem piece_here {w t : List Nat} {k : Nat} {e : List Nat × Nat} (h : (endsP w)[k]? = some e) (ht : t ≠ []) (hn : ∀ x ∈ (endsP w).take k, ¬ t <+: x.1) (hp : t <+: e.1) :
    (piecesF w)[(allG ((endsP w).take k)).length + t.length - e.2]? = some t := by
  have hs := new_same h ht hn hp
  have hl := hp.length_le
  have e0 : (allG ((endsP w).take k)).length + t.length - e.2 = ((allG ((endsP w).take k)).length + (t.length - e.2 - 1)) + 1 := by omega
  rw [e0]
  show (allG (endsP w))[(allG ((endsP w).take k)).length + (t.length - e.2 - 1)]? = some t
  have e1 : allG (endsP w) = allG ((endsP w).take k) ++ allG ((endsP w).drop k) := by rw [← all_app, List.take_append_drop]
  rw [e1, List.getElem?_append_right (by omega), Nat.add_sub_cancel_left, all_here h (by omega)]
  rw [show e.2 + 1 + (t.length - e.2 - 1) = t.length by omega, ← List.prefix_iff_eq_take.mp hp]
theorem no_piece {w t : List Nat} (ht : t ≠ []) (hn : ∀ x ∈ endsP w, ¬ t <+: x.1) : ¬ t <:+: w := by
  rintro ⟨a, b, e⟩
  have h1 : w.drop a.length ∈ sends w := sends_mem.mpr ⟨a.length, by rw [← e]; have := List.length_pos_iff.mpr ht; simp; omega, rfl⟩
  obtain ⟨k, hk⟩ := List.getElem?_of_mem h1
  have h2 := pairs_get [] (sends w) k _ hk
  refine hn _ (List.mem_of_getElem? (show (endsP w)[k]? = _ from h2)) ?_
  show t <+: w.drop a.length
  rw [← e, List.append_assoc, List.drop_left]
  exact List.prefix_append _ _
theorem pieces_len (w : List Nat) : (piecesF w).length = 1 + ((endsP w).map fun p => p.1.length - p.2).sum := by
  unfold piecesF
  rw [List.length_cons, all_len, Nat.add_comm]
theorem sum_int : ∀ l : List Nat, (l.map (fun n : Nat => (n : Int))).sum = ((l.sum : Nat) : Int)
  | [] => rfl
  | x :: l => by
    rw [List.map_cons, List.sum_cons, List.sum_cons, sum_int l]
    omega
/-- the pieces of a length -/
def ofLen (w : List Nat) (n : Nat) : Nat := ((piecesF w).filter fun x => x.length == n).length
theorem ofLen_zero (w : List Nat) : ofLen w 0 = 1 := by
  unfold ofLen piecesF
  rw [List.filter_cons]
  have : ((allG (endsP w)).filter fun x => x.length == 0) = [] := by
    rw [List.filter_eq_nil_iff]
    intro x hx
    have := all_gt _ [] x (sends_up w) (fun e he => sends_ne he) hx
    intro q
    have h0 : x = [] := List.length_eq_zero_iff.mp (by simpa using q)
    rw [h0] at this
    exact List.lt_irrefl _ this
  rw [this]
  rfl
theorem ofLen_pos (w : List Nat) {n : Nat} (hn : 0 < n) : ofLen w n = ((endsP w).filter fun p => decide (p.2 < n ∧ n ≤ p.1.length)).length := by
  unfold ofLen piecesF
  rw [List.filter_cons, if_neg (by simp; omega), all_count n hn]
def sp_many (C1 : Addr) : Sp := fun vs H Q E => ∃ v n, vs = [v] ∧ Thing H v n ∧ (isText v = false → ∀ H2, Ex H H2 → E (.ref C1) none H2) ∧ (∀ w, v = vS w → Wd w → RetV (.int ((piecesF w).length : Nat)) H Q)
def sp_oflen (C1 C2 : Addr) : Sp := fun vs H Q E => ∃ v1 n1 v2 n2, vs = [v1, v2] ∧ Thing H v1 n1 ∧ Thing H v2 n2 ∧
  (isText v1 = false → ∀ H2, Ex H H2 → E (.ref C1) none H2) ∧ (isText v1 = true → isNum v2 = false → ∀ H2, Ex H H2 → E (.ref C2) none H2) ∧
  (∀ w (n : Nat), v1 = vS w → v2 = .int (n : Nat) → Wd w → RetV (.int (ofLen w n : Nat)) H Q)
def sp_pieceby (C1 C2 : Addr) : Sp := fun vs H Q E => ∃ v1 n1 v2 n2, vs = [v1, v2] ∧ Thing H v1 n1 ∧ Thing H v2 n2 ∧
  (isText v1 = false → ∀ H2, Ex H H2 → E (.ref C1) none H2) ∧ (isText v1 = true → isNum v2 = false → ∀ H2, Ex H H2 → E (.ref C2) none H2) ∧
  (∀ w (n : Nat), v1 = vS w → v2 = .int (n : Nat) → Wd w → (∀ x, (piecesF w)[n]? = some x → RetV (vS x) H Q) ∧ ((piecesF w)[n]? = none → ∀ H2, Ex H H2 → E (.ref C2) none H2))
def sp_numof (C1 C2 C3 : Addr) : Sp := fun vs H Q E => ∃ v1 n1 v2 n2, vs = [v1, v2] ∧ Thing H v1 n1 ∧ Thing H v2 n2 ∧
  (isText v1 = false → ∀ H2, Ex H H2 → E (.ref C1) none H2) ∧ (isText v1 = true → isText v2 = false → ∀ H2, Ex H H2 → E (.ref C2) none H2) ∧
  (∀ w t, v1 = vS w → v2 = vS t → Wd w → Wd t → (∀ k : Nat, (piecesF w)[k]? = some t → RetV (.int (k : Nat)) H Q) ∧ (¬ t <:+: w → ∀ H2, Ex H H2 → E (.ref C3) none H2))
theorem num_int {H : Hp} {v : V} {n : String} (h : Thing H v n) (e : isNum v = true) : ∃ k : Nat, v = .int (k : Nat) := by
  cases h with
  | int i => exact ⟨i.toNat, by rw [Int.toNat_of_nonneg (of_decide_eq_true e)]⟩
  | _ => cases e
end WP
namespace WP
open PySem PySem.Spec PyProof.Rows L2 Evl
open SX (S S_len S_cat S_inj S_tl)
section
variable {K : PySem.W.Frag} {σ : L2.St} {H H' : Hp} {ta tb te tx tc td tl : TE} {t u : TT} {x y z v : V} {r r' r'' : R2} {D : Ends} {tu tw tz : TS} {g : TG} {P : V → Hp → Prop}
theorem s_forLV {a : Addr} {xs : List V} (h : Ev tl σ H (.ref a)) (hl : H a = some (.lst xs)) (hx : ∀ x ∈ xs, P x H) (st : Stay P) (I : L2.St → Prop) (i0 : I σ)
    (hs : ∀ G x σ' H', Ex H G → Ex G H' → P x H' → I σ' → g x σ' H' fun σ2 H2 => tu { D with nx := fun σ3 H3 => I σ3 ∧ Ex G H3, ct := fun σ3 H3 => I σ3 ∧ Ex G H3, bk := D.nx } σ2 H2)
    (hd : ∀ σ' H', I σ' → Ex H H' → D.nx σ' H') : tFor (iList K tl) g tu D σ H := h H (Ex.refl H) _ fun H1 e =>
  ⟨a, rfl, ⟨xs, sq_of (e _ _ hl)⟩, for_list (fun _ σ' H' => I σ' ∧ Ex H1 H') ⟨i0, Ex.refl _⟩ (fun _ σ' H' _ q => sq_of (q.2 _ _ (e _ _ hl))) (fun i x σ' H' hi q => hs H1 x σ' H' e q.2 (st x _ _ (e.trans q.2) (hx x (List.mem_of_getElem? hi))) q.1) (fun σ' H' q => hd σ' H' q.1 (e.trans q.2))⟩
/-- over a new tuple of such things -/
theorem q_forTG {ta : TA} (h : EvAG ta σ H (fun vs H1 => vs.length ≤ 1000 ∧ ∀ x ∈ vs, P x H1)) (st : Stay P) (I : L2.St → Prop) (i0 : I σ)
    (hs : ∀ G x σ' H', Ex H G → Ex G H' → P x H' → I σ' → g x σ' H' fun σ2 H2 => tu { D with nx := fun σ3 H3 => I σ3 ∧ Ex G H3, ct := fun σ3 H3 => I σ3 ∧ Ex G H3, bk := tz D } σ2 H2)
    (hd : ∀ σ' H', I σ' → Ex H H' → tz D σ' H') : tSeq (tFor (iTup K (tTup ta)) g tu) tz D σ H := h H (Ex.refl H) _ fun vs H0 e0 hv => ⟨Nat.le_trans hv.1 (by decide), fun p hp => by
  have e : Ex H (upd H0 p (.tup vs)) := e0.trans (Ex.new hp)
  refine ⟨p, rfl, ⟨vs, st_of upd_same⟩, for_tup (D := { D with nx := tz D }) (fun _ σ' H' => I σ' ∧ Ex (upd H0 p (.tup vs)) H') ⟨i0, Ex.refl _⟩ (fun _ σ' H' _ q => st_of (q.2 _ _ upd_same)) (fun i x σ' H' hi q => hs _ x σ' H' e q.2 (st x _ _ ((Ex.new hp).trans q.2) (hv.2 x (List.mem_of_getElem? hi))) q.1) (fun σ' H' q => hd σ' H' q.1 (e.trans q.2))⟩⟩
theorem el_listRg1 {j : Int} (ha : Ev ta σ H (.int j)) (ok : RgOk 0 j) : EvL (tLstRg (tRg1 ta)) σ H (rgV 0 j) := fun H1 e Q q =>
  ha H1 e _ fun H2 e2 => ⟨j, rfl, ok, fun p hp => q p _ (fresh_back e2 hp) (e2.trans (Ex.new hp)) upd_same⟩
/-- a comprehension over a new tuple -/
theorem el_lcU {xs : List V} {j : Nat} {vs : List Nat} (f : Nat → Bool) (v : Nat → V) (h : EvU tl σ H xs) (hz : xs.length ≤ 40000) (hw : ∀ x, wipe ((wipe σ vs).set j (some x)) vs = wipe σ vs)
    (ht : ∀ (i : Nat) (x : V) H1, Ex H H1 → xs[i]? = some x → EvT t ((wipe σ vs).set j (some x)) H1 (f i)) (he : ∀ (i : Nat) (x : V) H1, Ex H H1 → xs[i]? = some x → f i = true → Ev te ((wipe σ vs).set j (some x)) H1 (v i)) :
    EvL (tLc (iTup K tl) (gName j) t te vs) σ H (given xs.length f v) := fun H0 e Q q => h H0 e _ fun a H1 ha e1 hx => ⟨a, rfl, ⟨xs, st_of hx⟩, fun Dl hD =>
  lc_tup (xs := xs) (Cw H1 f v Dl) ⟨hD, Ex.new hD, upd_same⟩ (fun i H' _ p => st_of (p.2.1 a _ hx)) (fun i x H' hi p => ⟨hw x, cw_turn p (by have := (List.getElem?_eq_some_iff.mp hi).1; omega) (ht i x H1 (e.trans e1) hi) (fun hf => he i x H1 (e.trans e1) hi hf)⟩)
    (fun H' p => q Dl H' (fresh_back e1 p.1) (e1.trans p.2.1) p.2.2)⟩
theorem draw_lt {c : Int} {k : Nat} {m : Int} (h : 0 < m) : 0 ≤ drawF c k m ∧ drawF c k m < m := ⟨Int.emod_nonneg _ (by omega), Int.emod_lt_of_pos _ h⟩
/-- a pair of a text and a number, told by a property -/
def PairTN (p : List Nat → Nat → Prop) (v : V) (H : Hp) : Prop := ∃ a t n, v = .ref a ∧ H a = some (.tup [vS t, vN n]) ∧ p t n
theorem stay_tn {p : List Nat → Nat → Prop} : Stay (PairTN p) := fun v H H' e h => by
  obtain ⟨a, t, n, rfl, h, q⟩ := h
  exact ⟨a, t, n, rfl, e _ _ h, q⟩
theorem eg_tn {p : List Nat → Nat → Prop} {l : List Nat} {n : Nat} (ha : Ev ta σ H (vS l)) (hb : Ev tb σ H (vN n)) (q : p l n) : EvG (tTup (tCons ta (tCons tb tNil))) σ H (PairTN p) := fun H1 e Q k =>
  eu_tup (ea_cons ha (ea_cons hb ea_nil)) (by simp) H1 e Q fun a H2 _ e2 h2 => k _ H2 e2 ⟨a, l, n, rfl, h2, q⟩
end
theorem wd_infix {w t : List Nat} (h : Wd w) (i : t <:+: w) : Wd t := ⟨Nat.le_trans i.length_le h.1, fun c hc => h.2 c (i.subset hc)⟩
section
variable {H : Hp}
theorem spv_many {C1 : Addr} {w : List Nat} (h : Wd w) : SpV (sp_many C1) [vS w] H (.int ((piecesF w).length : Nat)) := fun H1 e1 Q q E =>
  ⟨_, _, rfl, .str w (by have := h.1; omega), fun z => (by rw [isText_wd h] at z; cases z), fun w' ew _ => by
    cases S_inj (V.str.inj ew)
    exact q⟩
theorem spv_oflen {C1 C2 : Addr} {w : List Nat} {n : Nat} (h : Wd w) : SpV (sp_oflen C1 C2) [vS w, .int (n : Nat)] H (.int (ofLen w n : Nat)) := fun H1 e1 Q q E =>
  ⟨_, _, _, _, rfl, .str w (by have := h.1; omega), .int _, fun z => (by rw [isText_wd h] at z; cases z), fun _ z => (by rw [isNum_int, decide_eq_true (by omega)] at z; cases z), fun w' n' ew en _ => by
    cases S_inj (V.str.inj ew)
    have : n = n' := by have := V.int.inj en; omega
    subst this
    exact q⟩
theorem spv_pieceby {C1 C2 : Addr} {w x : List Nat} {n : Nat} (h : Wd w) (hx : (piecesF w)[n]? = some x) : SpV (sp_pieceby C1 C2) [vS w, .int (n : Nat)] H (vS x) := fun H1 e1 Q q E =>
  ⟨_, _, _, _, rfl, .str w (by have := h.1; omega), .int _, fun z => (by rw [isText_wd h] at z; cases z), fun _ z => (by rw [isNum_int, decide_eq_true (by omega)] at z; cases z), fun w' n' ew en _ => by
    cases S_inj (V.str.inj ew)
    have : n = n' := by have := V.int.inj en; omega
    subst this
    refine ⟨fun y hy => ?_, fun hy => by rw [hx] at hy; cases hy⟩
    rw [hx] at hy
    cases hy
    exact q⟩
theorem pieces_inj {w x : List Nat} {i j : Nat} (hi : (piecesF w)[i]? = some x) (hj : (piecesF w)[j]? = some x) : i = j := by
  obtain ⟨a, ea⟩ := List.getElem?_eq_some_iff.mp hi
  obtain ⟨b, eb⟩ := List.getElem?_eq_some_iff.mp hj
  have h := List.pairwise_iff_getElem.mp (pieces_up w)
  rcases Nat.lt_trichotomy i j with q | q | q
  · have := h i j a b q
    rw [ea, eb] at this
    exact absurd this (List.lt_irrefl _)
  · exact q
  · have := h j i b a q
    rw [ea, eb] at this
    exact absurd this (List.lt_irrefl _)
theorem spv_numof {C1 C2 C3 : Addr} {w t : List Nat} {n : Nat} (h : Wd w) (hx : (piecesF w)[n]? = some t) : SpV (sp_numof C1 C2 C3) [vS w, vS t] H (.int (n : Nat)) := fun H1 e1 Q q E => by
  have hi : t <:+: w := pieces_mem.mp (List.mem_of_getElem? hx)
  have ht := wd_infix h hi
  refine ⟨_, _, _, _, rfl, .str w (by have := h.1; omega), .str t (by have := ht.1; omega), fun z => (by rw [isText_wd h] at z; cases z), fun _ z => (by rw [isText_wd ht] at z; cases z), fun w' t' ew et _ _ => ?_⟩
  cases S_inj (V.str.inj ew)
  cases S_inj (V.str.inj et)
  refine ⟨fun k hk => ?_, fun hn => absurd hi hn⟩
  rw [pieces_inj hk hx]
  exact q
theorem spl_pieces {w : List Nat} (h : w.length ≤ 100) : SpL sp_pieces [vS w] H ((piecesF w).map vS) := fun H1 e1 Q q E => ⟨w, rfl, h, q⟩
theorem spv_whole {i : Int} : SpV sp_whole [.int i] H (.bl true) := fun H1 e1 Q q E => ⟨_, _, rfl, .int i, q⟩
end
theorem cut_ints (ns : List Int) (lo hi : Option Int) : ∃ ms : List Int, cutV (ns.map V.int) lo hi = ms.map V.int ∧ ms.length ≤ ns.length ∧ ∀ z ∈ ms, z ∈ ns := by
  refine ⟨(ns.drop (HT.sIx ns.length 0 lo)).take (HT.sIx ns.length ns.length hi - HT.sIx ns.length 0 lo), ?_, ?_, fun z hz => List.mem_of_mem_drop (List.mem_of_mem_take hz)⟩
  · unfold cutV
    rw [List.length_map, ← List.map_drop, ← List.map_take]
  · rw [List.length_take, List.length_drop]
    omega
end WP
namespace WP
open PySem PySem.Spec PyProof.Rows L2 Evl
open SX (S S_len S_cat S_inj S_tl)
/-- xs[j], by values -/
def rGetL (K : PySem.W.Frag) : V → V → Hp → VK → Prop := fun x y H Q => ∃ (p : Addr) (xs : List V) (j : Nat) (v : V), x = .ref p ∧ y = .int (j : Int) ∧ SqL K H p xs ∧ xs[j]? = some v ∧ Q v H
theorem get_list {X : Cx} : PGet X (rGetL X.K) := by
  intro pins s σ H x y v u Q I rx ry h
  obtain ⟨p, xs, j, z, rfl, rfl, hq, he, q⟩ := h
  cases rx
  obtain ⟨t, rfl⟩ := ry
  obtain ⟨its, r, pl, hz⟩ := I.list hq
  obtain ⟨w, ew, rw'⟩ := r.get he
  have hl := r.length
  have hn := line63
  have hj : j < xs.length := (List.getElem?_eq_some_iff.mp he).1
  exact wpAny_getItem_list pl.isList (by omega) (by omega) (by rw [Int.toNat_natCast]; simpa using ew) ⟨z, H, I, rw', q⟩
section
variable {K : PySem.W.Frag} {σ : L2.St} {H H' : Hp} {ta tb te tx tc td tl : TE} {t u : TT} {x y z v : V} {r r' r'' : R2} {D : Ends} {tu tw tz : TS} {g : TG} {P : V → Hp → Prop}
theorem s_augL {l : Addr} {xs : List V} {j : Nat} {a b : Int} {f : Int → Int → Int} (hl : H l = some (.lst xs)) (ho : Ev ta σ H (.ref l)) (hi : Ev tb σ H (.int (j : Int))) (hj : xs[j]? = some (.int a)) (he : Ev te σ H (.int b)) (k : ∀ H1, Ex H H1 → D.nx σ (upd H1 l (.lst (xs.set j (.int (f a b)))))) :
    tAugS ta tb te (rGetL K) (ipI f) rSetL D σ H := ho H (Ex.refl H) _ fun H1 e1 => hi H1 e1 _ fun H2 e2 => ⟨l, xs, j, .int a, rfl, rfl, sq_of ((e1.trans e2) _ _ hl), hj, he H2 (e1.trans e2) _ fun H3 e3 =>
  ⟨a, b, rfl, rfl, l, xs, (j : Int), j, rfl, rfl, ((e1.trans e2).trans e3) l _ hl, ixN_nat (List.getElem?_eq_some_iff.mp hj).1, k H3 ((e1.trans e2).trans e3)⟩⟩
theorem el_rep {xs : List V} {n : Nat} (ha : EvL ta σ H xs) (hb : Ev tb σ H (.int (n : Int))) (hz : xs.length * n ≤ 100000) (hn : n ≤ 100000) : EvL (tOp rRep ta tb) σ H (List.replicate n xs).flatten := fun H1 e Q q =>
  ha H1 e _ fun p H2 _ e2 h2 => hb H2 (e.trans e2) _ fun H3 e3 => ⟨p, (n : Int), xs, rfl, rfl, e3 _ _ h2, by omega, by omega, sz_of (by rw [Int.toNat_natCast]; exact hz), fun l hl => by
    rw [Int.toNat_natCast]
    exact q l _ (fresh_back (e2.trans e3) hl) ((e2.trans e3).trans (Ex.new hl)) upd_same⟩
end
/-- how many of each length -/
def cnt (l : List (List Nat)) (m : Nat) : Nat := (l.filter fun x => x.length == m).length
def cntV (n : Nat) (l : List (List Nat)) : List V := (List.range n).map fun m => V.int (cnt l m : Nat)
theorem cntV_nil (n : Nat) : cntV n [] = (List.replicate n [V.int 0]).flatten := by
  unfold cntV
  induction n with
  | zero => rfl
  | succ n ih => rw [List.range_succ, List.map_append, ih, List.replicate_succ', List.flatten_append]; rfl
theorem cntV_get {n m : Nat} {l : List (List Nat)} (h : m < n) : (cntV n l)[m]? = some (.int (cnt l m : Nat)) := by
  unfold cntV
  rw [List.getElem?_map, List.getElem?_range h]
  rfl
theorem cnt_snoc (l : List (List Nat)) (x : List Nat) (m : Nat) : cnt (l ++ [x]) m = cnt l m + if x.length = m then 1 else 0 := by
  unfold cnt
  rw [List.filter_append, List.length_append]
  congr 1
  by_cases h : x.length = m
  · rw [if_pos h, List.filter_cons, if_pos (by simp [h])]
    rfl
  · rw [if_neg h, List.filter_cons, if_neg (by simp [h])]
    rfl
theorem cntV_snoc {n : Nat} {l : List (List Nat)} {x : List Nat} (h : x.length < n) : cntV n (l ++ [x]) = (cntV n l).set x.length (.int ((cnt l x.length : Nat) + 1)) := by
  refine List.ext_getElem? fun m => ?_
  by_cases hm : m < n
  · rw [cntV_get hm, cnt_snoc, List.getElem?_set]
    by_cases q : x.length = m
    · rw [if_pos q, if_pos q, if_pos (by unfold cntV; simp; omega)]
      subst q
      rfl
    · rw [if_neg q, if_neg q, cntV_get hm]
      rfl
  · rw [List.getElem?_eq_none (by unfold cntV; simp; omega), List.getElem?_eq_none (by unfold cntV; simp; omega)]
theorem pieces_few {W : List Nat} (h : W.length ≤ 100) : (piecesF W).length ≤ 10101 := by
  rw [pieces_len]
  have hs : ∀ (es : List (List Nat × Nat)), (∀ e ∈ es, e.1.length ≤ 100) → (es.map fun p => p.1.length - p.2).sum ≤ es.length * 100 := by
    intro es
    induction es with
    | nil => intro _; simp
    | cons e r ih =>
      intro h
      have := h e List.mem_cons_self
      have := ih fun x hx => h x (List.mem_cons_of_mem _ hx)
      rw [List.map_cons, List.sum_cons, List.length_cons]
      omega
  have := hs (endsP W) fun e he => by have := ends_ok he; omega
  rw [ends_len] at this
  omega
end WP
namespace WP
open PySem PySem.Spec PyProof.Rows L2 Evl
open SX (S S_len S_cat S_inj S_tl)
def topS (i : Nat) : Stmt := PySem.Challenge.pw_wordpieces_k02_whole_counted.main.body.getD i (.Pass ⟨0, 0, 0, 0⟩)
section
variable {P : Program} {w : World} {K : PySem.W.Frag} {mg : Str → Option Value} {base : Heap}
abbrev s_is_text : Stmt := topS 7
abbrev nm_is_text : List Str := ["thing"]
theorem sc_is_text : FnScope nm_is_text ["thing"] (defScope s_is_text) := ⟨rfl, rfl, rfl, by decide +kernel, rfl, by decide +kernel, by decide +kernel⟩
theorem ok_is_text {f : Addr} {fd : FuncData} (F : Fun K "is_text" "is_text" s_is_text f fd) (B : Bl mg) (g_LETTERS : ∃ u, mg "LETTERS" = some u ∧ RelV (.str (S azs)) u) (g_MOST : ∃ u, mg "MOST" = some u ∧ RelV (.int 100) u) :
    FnOk P w K mg base (L2.CX P w) 1 f fd ["thing"] (sp_is_text) := by
  obtain ⟨u_LETTERS, g_LETTERS, r_LETTERS⟩ := g_LETTERS
  obtain ⟨u_MOST, g_MOST, r_MOST⟩ := g_MOST
  refine F.okX sc_is_text (fun vs H Q E h => ?_) (fun cdv A outer s H vs Q E hr h => ?_)
  · obtain ⟨v, n, rfl, hT, k⟩ := h
    first | rfl | (rw [List.length_cons, hl]; rfl)
  · obtain ⟨v, n, rfl, hT, k⟩ := h
    refine ⟨_, (pss_one (ps_ret (pe_and (pe_callB call_isi (by rfl) B.isinstance (by decide +kernel) (pa_cons (pv 0) (pa_cons (pe_bltn (v := .ty "str") (by rfl) B.str_ (by decide +kernel) rfl) pa_nil))) (pe_and (pe_cmpR op_le (pe_callB call_len_str (by rfl) B.len PySem.boot_len (pa_cons (pv 0) pa_nil)) (pe_glob rfl g_MOST r_MOST) (nomark _)) (pe_one (pe_cmpR op_eq (pe_bm PySem.F.plainAttrs_str PySem.F.slot_str_strip PySem.F.type_str_strip mt_stripChars (pv 0) (pa_cons (pe_glob rfl g_LETTERS r_LETTERS) pa_nil)) pe_str (nomark _))))))), ?_⟩
    cases hT with
    | str l hl =>
      refine s_ret (v := .bl (isText (.str (S l)))) (ev_is (ev_andV (ev_isi (ev_var rfl) (.str l hl) (b := true) (by decide +kernel)) fun _ =>
        ev_andV (ev_op (ev_lenS (ev_var rfl) hl) ev_c rv_I0) fun _ => ev_op (ev_bm (ev_var rfl) (fun _ _ => rfl) (ea_cons ev_c ea_nil) (z := .str (Txt.stripChars (S l) (S azs))) ?_) ev_c (rv_eq (x := .str (Txt.stripChars (S l) (S azs))) rfl)) ?_) (fun H1 e1 => k.go e1)
      · exact fun H1 _ Q q => ⟨S l, S azs, rfl, rfl, by rw [S_len]; exact Nat.le_trans hl (by decide), q H1 (Ex.refl H1)⟩
      · rw [isText_S]
        congr 1
        rw [Bool.true_and]
        have e : decide (V.str (Txt.stripChars (S l) (S azs)) = V.str "") = l.all (fun c => azs.contains c) := by
          rw [← strip_S, Bool.eq_iff_iff, decide_eq_true_eq, decide_eq_true_eq]
          exact ⟨fun h => V.str.inj h, fun h => congrArg V.str h⟩
        rw [e]
        congr 1
        exact decide_eq_decide.mpr (by omega)
    | non => exact s_ret (ev_andV (b := false) (ev_isi (ev_var rfl) .non (b := false) (by decide +kernel)) fun h => nomatch h) (fun H1 e1 => k.go e1)
    | bl b => exact s_ret (ev_andV (b := false) (ev_isi (ev_var rfl) (.bl b) (b := false) (by decide +kernel)) fun h => nomatch h) (fun H1 e1 => k.go e1)
    | int i => exact s_ret (ev_andV (b := false) (ev_isi (ev_var rfl) (.int i) (b := false) (by decide +kernel)) fun h => nomatch h) (fun H1 e1 => k.go e1)
    | lst q => exact s_ret (ev_andV (b := false) (ev_isi (ev_var rfl) (.lst q) (b := false) (by decide +kernel)) fun h => nomatch h) (fun H1 e1 => k.go e1)
    | tup q => exact s_ret (ev_andV (b := false) (ev_isi (ev_var rfl) (.tup q) (b := false) (by decide +kernel)) fun h => nomatch h) (fun H1 e1 => k.go e1)
    | dK q => exact s_ret (ev_andV (b := false) (ev_isi (ev_var rfl) (.dK q) (b := false) (by decide +kernel)) fun h => nomatch h) (fun H1 e1 => k.go e1)

abbrev s_is_number : Stmt := topS 10
abbrev nm_is_number : List Str := ["thing"]
theorem sc_is_number : FnScope nm_is_number ["thing"] (defScope s_is_number) := ⟨rfl, rfl, rfl, by decide +kernel, rfl, by decide +kernel, by decide +kernel⟩
theorem ok_is_number {f : Addr} {fd : FuncData} (F : Fun K "is_number" "is_number" s_is_number f fd) (B : Bl mg) :
    FnOk P w K mg base (L2.CX P w) 1 f fd ["thing"] (sp_is_number) := by
  refine F.okX sc_is_number (fun vs H Q E h => ?_) (fun cdv A outer s H vs Q E hr h => ?_)
  · obtain ⟨v, n, rfl, hT, k⟩ := h
    first | rfl | (rw [List.length_cons, hl]; rfl)
  · obtain ⟨v, n, rfl, hT, k⟩ := h
    refine ⟨_, (pss_one (ps_ret (pe_and (pe_callB call_isi (by rfl) B.isinstance (by decide +kernel) (pa_cons (pv 0) (pa_cons (pe_bltn (v := .ty "int") (by rfl) B.int_ (by decide +kernel) rfl) pa_nil))) (pe_and (pe_not (pe_callB call_isi (by rfl) B.isinstance (by decide +kernel) (pa_cons (pv 0) (pa_cons (pe_bltn (v := .ty "bool") (by rfl) B.bool_ (by decide +kernel) rfl) pa_nil)))) (pe_one (pe_cmpR op_ge (pv 0) pe_int (nomark _))))))), ?_⟩
    cases hT with
    | str l hl => exact s_ret (ev_andV (b := false) (ev_isi (ev_var rfl) (.str l hl) (b := false) (by decide +kernel)) fun h => nomatch h) (fun H1 e1 => k.go e1)
    | non => exact s_ret (ev_andV (b := false) (ev_isi (ev_var rfl) .non (b := false) (by decide +kernel)) fun h => nomatch h) (fun H1 e1 => k.go e1)
    | bl b => exact s_ret (ev_andV (ev_isi (ev_var rfl) (.bl b) (b := true) (by decide +kernel)) fun _ => ev_andV (b := true) (ev_notV (ev_isi (ev_var rfl) (.bl b) (b := true) (by decide +kernel))) fun h => nomatch h) (fun H1 e1 => k.go e1)
    | int i => exact s_ret (ev_is (ev_andV (ev_isi (ev_var rfl) (.int i) (b := true) (by decide +kernel)) fun _ => ev_andV (ev_notV (ev_isi (ev_var rfl) (.int i) (b := false) (by decide +kernel))) fun _ => ev_op (ev_var rfl) ev_c rv_I0) rfl) (fun H1 e1 => k.go e1)
    | lst q => exact s_ret (ev_andV (b := false) (ev_isi (ev_var rfl) (.lst q) (b := false) (by decide +kernel)) fun h => nomatch h) (fun H1 e1 => k.go e1)
    | tup q => exact s_ret (ev_andV (b := false) (ev_isi (ev_var rfl) (.tup q) (b := false) (by decide +kernel)) fun h => nomatch h) (fun H1 e1 => k.go e1)
    | dK q => exact s_ret (ev_andV (b := false) (ev_isi (ev_var rfl) (.dK q) (b := false) (by decide +kernel)) fun h => nomatch h) (fun H1 e1 => k.go e1)

abbrev s_ends_in_order : Stmt := topS 11
abbrev nm_ends_in_order : List Str := ["word", "found", "last", "place", "end", "same"]
theorem sc_ends_in_order : FnScope nm_ends_in_order ["word"] (defScope s_ends_in_order) := ⟨rfl, rfl, rfl, by decide +kernel, rfl, by decide +kernel, by decide +kernel⟩
theorem ok_ends_in_order {f : Addr} {fd : FuncData} (F : Fun K "ends_in_order" "ends_in_order" s_ends_in_order f fd) (B : Bl mg) :
    FnOk P w K mg base (L2.CX P w) 1 f fd ["word"] (sp_ends) := by
  refine F.okX sc_ends_in_order (fun vs H Q E h => ?_) (fun cdv A outer s H vs Q E hr h => ?_)
  · obtain ⟨W, rfl, hW, k⟩ := h
    first | rfl | (rw [List.length_cons, hl]; rfl)
  · obtain ⟨W, rfl, hW, k⟩ := h
    refine ⟨_, (pss_cons (ps_set (i := 1) sc_ends_in_order.nd rfl (.inl rfl) (pe_lst pa_nil))
      (pss_cons (ps_set (i := 2) sc_ends_in_order.nd rfl (.inl rfl) pe_str)
      (pss_cons (ps_for (passes_of rfl) rfl (pi_list (pe_callB cr_sortedTx (by rfl) B.sorted (by decide +kernel) (pa_cons (pe_lc (own := [("place", 3)]) (g := (gName 3)) rfl sc_ends_in_order.nd (pi_range1 rfl B.range (pa_cons (pe_callB call_len_str (by rfl) B.len PySem.boot_len (pa_cons (pv 0) pa_nil)) pa_nil)) (blkOk_by (N := nm_ends_in_order) (sc := defScope s_ends_in_order) (by decide +kernel)) (fun _ _ _ _ _ => by exact (pg_name (i := 3) sc_ends_in_order.nd rfl (.inl rfl))) (fun _ _ _ _ _ => by exact pts_nil) (fun _ _ _ _ _ => by exact (pe_slice sl_str (pv 0) (po_some (pv 3)) po_none))) pa_nil))) (pg_name (i := 4) sc_ends_in_order.nd rfl (.inl rfl))
      (pss_cons (ps_set (i := 5) sc_ends_in_order.nd rfl (.inl rfl) pe_int)
      (pss_cons (ps_while (passes_of rfl) (PW.pt (pw_and (pt_cmpR op_lt (pv 5) (pe_callB call_len_str (by rfl) B.len PySem.boot_len (pa_cons (pv 2) pa_nil)) (nomark _)) (pw_and1 (pt_cmpR op_eq (pe_ix ix_str (pv 2) (pv 5) (fun _ _ => rfl)) (pe_ix ix_str (pv 4) (pv 5) (fun _ _ => rfl)) (nomark _))))) (pss_one (ps_aug (i := 5) sc_ends_in_order.nd rfl (.inl rfl) pe_int ip_add)))
      (pss_cons (ps_expr (pe_bm PySem.F.plainAttrs_list PySem.F.slot_list_append PySem.F.type_list_append mt_append (pv 1) (pa_cons (pe_tup (pa_cons (pv 4) (pa_cons (pv 5) pa_nil))) pa_nil)))
      (pss_one (ps_set (i := 2) sc_ends_in_order.nd rfl (.inl rfl) (pv 4)))))))
      (pss_one (ps_ret (pv 1)))))), ?_⟩
    refine q_asgL (xs := []) (el_lst ea_nil (by simp)) fun pf H1 hpf e1 h1 => ?_
    refine q_asg ev_c fun H2 e2 => ?_
    have x2 := e1.trans e2
    refine q_forNLn (K := K) (xs := (sends W).map vS) (el_sorted (xs := endsL W) ?_) (fun pl i σ' H' => ∃ acc y4 y5, σ' = [some (vS W), some (.ref pf), some (vS (prev [] (sends W) i)), none, y4, y5] ∧ H' pf = some (.lst acc) ∧ TP ((endsP W).take i) acc H' ∧ H' pl = some (.lst ((sends W).map vS)) ∧ Ex H H' ∧ pl ≠ pf) (fun pl H3 hpl e3 h3 => ?_) (fun pl i σ' H' _ hP => ?_) (fun pl i x σ' H' hx hP => ?_) (fun pl σ' H' hP => ?_)
    · have e : (endsL W).map vS = given (W.length : Int).toNat (fun _ => true) (fun i => vS (W.drop i)) := by
        rw [given_all, Int.toNat_natCast]
        unfold endsL
        rw [List.map_map]
        rfl
      rw [e]
      exact el_lcR (fun _ => true) _ (ea_cons (ev_lenS (ev_var rfl) (by omega)) ea_nil) ⟨by omega, by omega⟩ (fun x => rfl) (fun i H1 e1 hi => et_yes) (fun i H1 e1 hi _ => ev_is (ev_slS (ev_var rfl) (eo_some (ev_var rfl)) eo_none (by omega)) (by rw [cut_from]))
    · refine ⟨[], none, none, rfl, e3 _ _ (e2 _ _ h1), ⟨rfl, fun i e h => by simp at h⟩, h3, x2.trans e3, fun q => ?_⟩
      rw [q, e2 _ _ h1] at hpl
      cases hpl
    · obtain ⟨acc, y4, y5, _, _, _, h, _, _⟩ := hP
      exact sq_of h
    · obtain ⟨acc, y4, y5, rfl, ha, hT, hl, x3, hne⟩ := hP
      rw [List.getElem?_map] at hx
      obtain ⟨e, he, rfl⟩ : ∃ e, (sends W)[i]? = some e ∧ x = vS e := by
        cases q : (sends W)[i]? with
        | none => rw [q] at hx; cases hx
        | some z => rw [q] at hx; exact ⟨z, rfl, (Option.some.inj hx).symm⟩
      have hi : i < (sends W).length := (List.getElem?_eq_some_iff.mp he).1
      have hle : ∀ z ∈ sends W, z.length ≤ 100 := fun z hz => by
        obtain ⟨j, _, rfl⟩ := sends_mem.mp hz
        rw [List.length_drop]
        omega
      have hel := hle e (List.mem_of_getElem? he)
      have hll : (prev [] (sends W) i).length ≤ 100 := by
        cases i with
        | zero => simp [prev]
        | succ i =>
          show ((sends W).getD i []).length ≤ 100
          rw [List.getD_eq_getElem?_getD, List.getElem?_eq_getElem (by omega)]
          exact hle _ (List.getElem_mem _)
      have hlt : prev [] (sends W) i < e := by
        cases i with
        | zero => exact sends_ne (List.mem_of_getElem? he)
        | succ i =>
          show (sends W).getD i [] < e
          rw [List.getD_eq_getElem?_getD, List.getElem?_eq_getElem (by omega)]
          have hs := List.pairwise_iff_getElem.mp (sends_up W) i (i + 1) (by omega) hi (by omega)
          have he' : (sends W)[i + 1] = e := (List.getElem?_eq_some_iff.mp he).2
          rw [he'] at hs
          exact hs
      have hpg := pairs_get [] (sends W) i e he
      generalize hla : prev [] (sends W) i = la at hll hlt hpg ⊢
      refine q_asg ev_c fun H4 e4 => ?_
      refine q_while (fun m σ' H' => ∃ s : Nat, σ' = [some (vS W), some (.ref pf), some (vS la), none, some (vS e), some (.int (s : Nat))] ∧ s ≤ lcp la e ∧ m = lcp la e - s ∧ Ex H4 H') (lcp la e) ⟨0, rfl, Nat.zero_le _, rfl, Ex.refl _⟩ ?_
      rintro m _ H5 ⟨s, rfl, hs, rfl, e5⟩
      have hsl := lcp_le1 la e
      refine ⟨decide (s < lcp la e), ?_, fun hb H6 e6 => ?_, fun hb H6 e6 => ?_⟩
      · by_cases hc : s < lcp la e
        · obtain ⟨c, c1, c2⟩ := lcp_get hc
          refine et_is (et_and (et_test (ev_op (ev_var rfl) (ev_lenS (l := la) (ev_var rfl) (by omega)) rv_I0)) fun _ => et_test (ev_op (ev_op (ev_var rfl) (ev_var rfl) (rv_ixS' (by omega) (atI_nat c1))) (ev_op (ev_var rfl) (ev_var rfl) (rv_ixS' (by omega) (atI_nat c2))) rv_eqS)) ?_
          rw [decide_eq_true hc, decide_eq_true (show (s : Int) < la.length by omega), decide_eq_true rfl]
          rfl
        · have hse : s = lcp la e := by omega
          by_cases hd : s < la.length
          · obtain ⟨c, d, c1, c2, c3⟩ := lcp_stop hlt (by rw [← hse]; exact hd)
            rw [← hse] at c1 c2
            refine et_is (et_and (et_test (ev_op (ev_var rfl) (ev_lenS (l := la) (ev_var rfl) (by omega)) rv_I0)) fun _ => et_test (ev_op (ev_op (ev_var rfl) (ev_var rfl) (rv_ixS' (by omega) (atI_nat c1))) (ev_op (ev_var rfl) (ev_var rfl) (rv_ixS' (by omega) (atI_nat c2))) rv_eqS)) ?_
            rw [decide_eq_false hc, decide_eq_false (fun q => c3 (List.cons.inj q).1), Bool.and_false]
          · refine et_is (et_and (b := true) (et_test (ev_op (ev_var rfl) (ev_lenS (l := la) (ev_var rfl) (by omega)) rv_I0)) fun hq => absurd (of_decide_eq_true hq) (by omega)) ?_
            rw [decide_eq_false hc, decide_eq_false (show ¬ (s : Int) < la.length by omega)]
            rfl
      · have hc := of_decide_eq_true hb
        refine ⟨fun σ' H' => ∃ s' : Nat, s' = s + 1 ∧ σ' = [some (vS W), some (.ref pf), some (vS la), none, some (vS e), some (.int (s' : Nat))] ∧ Ex H4 H', ?_, ?_⟩
        · rintro σ2 H7 ⟨s', rfl, rfl, x7⟩
          exact ⟨lcp la e - (s + 1), by omega, s + 1, rfl, by omega, rfl, x7⟩
        · refine s_aug rfl ev_c fun H7 e7 => ⟨s + 1, rfl, ?_, (e5.trans e6).trans e7⟩
          rw [show (((s + 1 : Nat) : Int)) = (s : Int) + 1 by omega]
          rfl
      · have hc := of_decide_eq_false hb
        have hse : s = lcp la e := by omega
        subst hse
        have y6 : Ex H' H6 := (e4.trans e5).trans e6
        refine q_appU (K := K) (xs := acc) (ys := [vS e, vN (lcp la e)]) (y6 _ _ ha) (ev_var rfl) (eu_tup (ea_cons (ev_var rfl) (ea_cons (ev_var rfl) ea_nil)) (by simp)) (by have := hT.1; rw [List.length_take] at this; have := sends_len W; omega) fun pt H7 hpt e7 h7 => ?_
        have y7 := y6.trans e7
        refine s_asg (ev_var rfl) fun H8 e8 => ⟨acc ++ [.ref pt], some (vS e), some (.int ((lcp la e : Nat) : Int)), ?_, e8 _ _ upd_same, ?_, ?_, ?_, hne⟩
        · have : prev [] (sends W) (i + 1) = e := by
            show (sends W).getD i [] = e
            rw [List.getD_eq_getElem?_getD, he]
            rfl
          rw [this]
          rfl
        · have hpe : (endsP W)[i]? = some (e, lcp la e) := hpg
          rw [List.take_add_one, hpe]
          exact (((hT.ex y7).snoc (e := (e, lcp la e)) h7).upd (y7 _ _ ha)).ex e8
        · refine e8 _ _ ?_
          rw [upd_ne hne]
          exact y7 _ _ hl
        · exact (Ex.mut (x3.trans y7) hpf).trans e8
    · obtain ⟨acc, y4, y5, rfl, ha, hT, hl, x3, hne⟩ := hP
      rw [List.take_of_length_le (by unfold endsP; rw [pairs_len, List.length_map]; exact Nat.le_refl _)] at hT
      exact s_ret (ev_var rfl) fun H4 e4 => k acc pf H4 hpf (x3.trans e4) (e4 _ _ ha) (hT.ex e4)

abbrev s_law_cell_at : Stmt := topS 15
abbrev nm_law_cell_at : List Str := ["_law_script", "_law_k"]
theorem sc_law_cell_at : FnScope nm_law_cell_at ["_law_script", "_law_k"] (defScope s_law_cell_at) := ⟨rfl, rfl, rfl, by decide +kernel, rfl, by decide +kernel, by decide +kernel⟩
theorem ok_law_cell_at {f : Addr} {fd : FuncData} (F : Fun K "_law_cell_at" "_law_cell_at" s_law_cell_at f fd) (B : Bl mg) :
    FnOk P w K mg base (L2.CX P w) 1 f fd ["_law_script", "_law_k"] (sp_cell K) := by
  refine F.okX sc_law_cell_at (fun vs H Q E h => ?_) (fun cdv A outer s H vs Q E hr h => ?_)
  · obtain ⟨a, ns, i, rfl, hS, k⟩ := h
    first | rfl | (rw [List.length_cons, hl]; rfl)
  · obtain ⟨a, ns, i, rfl, hS, k⟩ := h
    refine ⟨_, (pss_cons (ps_if (pt_cmpR op_lt (pv 1) (pe_callB call_len_seq (by rfl) B.len PySem.boot_len (pa_cons (pv 0) pa_nil)) (nomark _)) (pss_one (ps_ret (pe_ix ix_list (pv 0) (pv 1) (fun _ _ => rfl)))) pss_nil)
      (pss_one (ps_ret pe_int))), ?_⟩
    refine q_when (et_test (ev_op (ev_var rfl) (ev_len (K := K) (ev_var rfl) hS) rv_I0)) (fun hb H1 e1 => ?_) (fun hb H1 e1 => ?_)
    · have hi : i < ns.length := by
        have := of_decide_eq_true hb
        rw [List.length_map] at this
        omega
      refine s_ret (v := .int (cellAt ns i)) (ev_op (ev_var rfl) (ev_var rfl) (rv_ixL (K := K) (ex_l e1 hS) ?_)) (fun H2 e2 => k.go (e1.trans e2))
      rw [atI_nat (j := i) (v := .int (cellAt ns i))]
      rw [List.getElem?_map]
      unfold cellAt
      rw [List.getD_eq_getElem?_getD, List.getElem?_eq_getElem hi]
      rfl
    · refine s_ret (v := .int (cellAt ns i)) (ev_is ev_c ?_) (fun H2 e2 => k.go (e1.trans e2))
      have hi : ns.length ≤ i := by
        have := of_decide_eq_false hb
        rw [List.length_map] at this
        omega
      unfold cellAt
      rw [List.getD_eq_getElem?_getD, List.getElem?_eq_none hi]
      rfl

abbrev s_law_draw : Stmt := topS 16
abbrev nm_law_draw : List Str := ["_law_cell", "_law_k", "_law_most", "_law_primes"]
theorem sc_law_draw : FnScope nm_law_draw ["_law_cell", "_law_k", "_law_most"] (defScope s_law_draw) := ⟨rfl, rfl, rfl, by decide +kernel, rfl, by decide +kernel, by decide +kernel⟩
theorem ok_law_draw {f : Addr} {fd : FuncData} (F : Fun K "_law_draw" "_law_draw" s_law_draw f fd) (B : Bl mg) :
    FnOk P w K mg base (L2.CX P w) 1 f fd ["_law_cell", "_law_k", "_law_most"] (sp_draw) := by
  refine F.okX sc_law_draw (fun vs H Q E h => ?_) (fun cdv A outer s H vs Q E hr h => ?_)
  · obtain ⟨c, i, m, rfl, hc, hi, hm, k⟩ := h
    first | rfl | (rw [List.length_cons, hl]; rfl)
  · obtain ⟨c, i, m, rfl, hc, hi, hm, k⟩ := h
    refine ⟨_, (pss_cons (ps_set (i := 3) sc_law_draw.nd rfl (.inl rfl) (pe_tup (pa_cons pe_int (pa_cons pe_int (pa_cons pe_int (pa_cons pe_int (pa_cons pe_int (pa_cons pe_int (pa_cons pe_int (pa_cons pe_int (pa_cons pe_int (pa_cons pe_int (pa_cons pe_int (pa_cons pe_int (pa_cons pe_int (pa_cons pe_int (pa_cons pe_int (pa_cons pe_int pa_nil))))))))))))))))))
      (pss_one (ps_ret (pe_op op_mod (pe_op op_mod (pe_op op_add (pe_op op_mulV (pv 0) pe_int) (pe_op op_mulV (pv 1) pe_int)) (pe_ix ix_tup (pv 3) (pe_op op_mod (pv 1) pe_int) (fun _ _ => rfl))) (pv 2))))), ?_⟩
    refine q_asgU (xs := primes.map V.int) (eu_tup (by repeat' (first | exact ea_nil | refine ea_cons ev_c ?_)) (by decide)) fun p H1 hp e1 h1 => ?_
    refine s_ret (v := .int (drawF c i m)) (ev_op (ev_op (ev_op (ev_op (ev_var rfl) ev_c (rv_I (hc.mulOk (Lim.small (by decide) (by decide)) (by decide)))) (ev_op (ev_var rfl) ev_c (rv_I ((Lim.small (i := (i : Int)) (by omega) (by omega)).mulOk (Lim.small (by decide) (by decide)) (by decide)))) rv_I0)
      (ev_op (ev_var rfl) (ev_op (ev_var rfl) ev_c (rv_I (by decide))) (rv_ixT (K := K) (st_of h1) (v := .int (primes.getD (i % 16) 1)) ?_)) (rv_I (primes_pos i))) (ev_var rfl) (rv_I hm)) (fun H2 e2 => k.go (e1.trans e2))
    have e : ((i : Int) % 16) = ((i % 16 : Nat) : Int) := by omega
    rw [e, atI_nat (j := i % 16)]
    have hlt : i % 16 < primes.length := Nat.mod_lt _ (by decide)
    rw [List.getElem?_map, List.getD_eq_getElem?_getD, List.getElem?_eq_getElem hlt]
    rfl

abbrev s_law_whole : Stmt := topS 20
abbrev nm_law_whole : List Str := ["_law_number_here"]
theorem sc_law_whole : FnScope nm_law_whole ["_law_number_here"] (defScope s_law_whole) := ⟨rfl, rfl, rfl, by decide +kernel, rfl, by decide +kernel, by decide +kernel⟩
theorem ok_law_whole {f : Addr} {fd : FuncData} (F : Fun K "_law_whole" "_law_whole" s_law_whole f fd) (B : Bl mg) :
    FnOk P w K mg base (L2.CX P w) 1 f fd ["_law_number_here"] (sp_whole) := by
  refine F.okX sc_law_whole (fun vs H Q E h => ?_) (fun cdv A outer s H vs Q E hr h => ?_)
  · obtain ⟨v, n, rfl, hT, k⟩ := h
    first | rfl | (rw [List.length_cons, hl]; rfl)
  · obtain ⟨v, n, rfl, hT, k⟩ := h
    refine ⟨_, (pss_one (ps_ret (pe_and (pe_callB call_isi (by rfl) B.isinstance (by decide +kernel) (pa_cons (pv 0) (pa_cons (pe_bltn (v := .ty "int") (by rfl) B.int_ (by decide +kernel) rfl) pa_nil))) (pe_one (pe_not (pe_callB call_isi (by rfl) B.isinstance (by decide +kernel) (pa_cons (pv 0) (pa_cons (pe_bltn (v := .ty "bool") (by rfl) B.bool_ (by decide +kernel) rfl) pa_nil)))))))), ?_⟩
    cases hT with
    | str l hl => exact s_ret (ev_andV (b := true) (ev_isi (ev_var rfl) (.str l hl) (b := false) (by decide +kernel)) fun h => nomatch h) (fun H1 e1 => k.go e1)
    | non => exact s_ret (ev_andV (b := true) (ev_isi (ev_var rfl) .non (b := false) (by decide +kernel)) fun h => nomatch h) (fun H1 e1 => k.go e1)
    | bl b => exact s_ret (ev_andV (ev_isi (ev_var rfl) (.bl b) (b := true) (by decide +kernel)) fun _ => ev_notV (ev_isi (ev_var rfl) (.bl b) (b := true) (by decide +kernel))) (fun H1 e1 => k.go e1)
    | int i => exact s_ret (ev_andV (ev_isi (ev_var rfl) (.int i) (b := true) (by decide +kernel)) fun _ => ev_notV (ev_isi (ev_var rfl) (.int i) (b := false) (by decide +kernel))) (fun H1 e1 => k.go e1)
    | lst q => exact s_ret (ev_andV (b := true) (ev_isi (ev_var rfl) (.lst q) (b := false) (by decide +kernel)) fun h => nomatch h) (fun H1 e1 => k.go e1)
    | tup q => exact s_ret (ev_andV (b := true) (ev_isi (ev_var rfl) (.tup q) (b := false) (by decide +kernel)) fun h => nomatch h) (fun H1 e1 => k.go e1)
    | dK q => exact s_ret (ev_andV (b := true) (ev_isi (ev_var rfl) (.dK q) (b := false) (by decide +kernel)) fun h => nomatch h) (fun H1 e1 => k.go e1)

abbrev s_law_pieces : Stmt := topS 21
abbrev nm_law_pieces : List Str := ["_law_word_here", "_law_found", "_law_begin", "_law_end"]
theorem sc_law_pieces : FnScope nm_law_pieces ["_law_word_here"] (defScope s_law_pieces) := ⟨rfl, rfl, rfl, by decide +kernel, rfl, by decide +kernel, by decide +kernel⟩
theorem ok_law_pieces {f : Addr} {fd : FuncData} (F : Fun K "_law_pieces" "_law_pieces" s_law_pieces f fd) (B : Bl mg) :
    FnOk P w K mg base (L2.CX P w) 1 f fd ["_law_word_here"] (sp_pieces) := by
  refine F.okX sc_law_pieces (fun vs H Q E h => ?_) (fun cdv A outer s H vs Q E hr h => ?_)
  · obtain ⟨W, rfl, hW, k⟩ := h
    first | rfl | (rw [List.length_cons, hl]; rfl)
  · obtain ⟨W, rfl, hW, k⟩ := h
    refine ⟨_, (pss_cons (ps_set (i := 1) sc_law_pieces.nd rfl (.inl rfl) pe_dnewK)
      (pss_cons (ps_for (passes_of rfl) rfl (pi_range1 rfl B.range (pa_cons (pe_op op_add (pe_callB call_len_str (by rfl) B.len PySem.boot_len (pa_cons (pv 0) pa_nil)) pe_int) pa_nil)) (pg_name (i := 2) sc_law_pieces.nd rfl (.inl rfl))
      (pss_one (ps_for (passes_of rfl) rfl (pi_range2 rfl B.range (pa_cons (pv 2) (pa_cons (pe_op op_add (pe_callB call_len_str (by rfl) B.len PySem.boot_len (pa_cons (pv 0) pa_nil)) pe_int) pa_nil))) (pg_name (i := 3) sc_law_pieces.nd rfl (.inl rfl))
      (pss_one (ps_dput (hu_of hr) (pv 1) (pe_slice sl_str (pv 0) (po_some (pv 2)) (po_some (pv 3))) pe_bl rfl)))))
      (pss_one (ps_ret (pe_callB (cr_sortedDx rfl) (by rfl) B.sorted (by decide +kernel) (pa_cons (pv 1) pa_nil)))))), ?_⟩
    refine q_asgDK fun pf H1 hpf e1 h1 => ?_
    refine q_forR1 (j := 2) (n := (W.length : Int) + 1) (ea_cons (ev_op (ev_lenS (l := W) (ev_var rfl) (by omega)) ev_c rv_I0) ea_nil) (by omega) (fun i σ' H' => ∃ kvs ks y2 y3, σ' = [some (vS W), some (.ref pf), y2, y3] ∧ H' pf = some (.dK kvs) ∧ kvs.map (·.1) = ks.map (fun l => Sum.inr (S l)) ∧ ks.Nodup ∧ ks.length ≤ i * 101 ∧ (∀ x, x ∈ ks ↔ ∃ b e, b < i ∧ b ≤ e ∧ e ≤ W.length ∧ x = (W.drop b).take (e - b)) ∧ Ex H H')
      (fun H2 e2 => ⟨[], [], none, none, rfl, e2 _ _ h1, rfl, List.nodup_nil, by simp, fun x => ⟨fun h => (by cases h), fun ⟨b, _, h, _⟩ => absurd h (Nat.not_lt_zero _)⟩, e1.trans e2⟩) ?_ ?_
    · rintro i _ H2 hi ⟨kvs, ks, y2, y3, rfl, h2, hk, hn, hl, hm, x2⟩
      refine s_forR2 (j := 3) (lo := (i : Int)) (n := (W.length : Int) + 1) (ea_cons (ev_var rfl) (ea_cons (ev_op (ev_lenS (l := W) (ev_var rfl) (by omega)) ev_c rv_I0) ea_nil)) (by omega) (fun m σ' H' => ∃ kvs ks y3, σ' = [some (vS W), some (.ref pf), some (.int (i : Int)), y3] ∧ H' pf = some (.dK kvs) ∧ kvs.map (·.1) = ks.map (fun l => Sum.inr (S l)) ∧ ks.Nodup ∧ ks.length ≤ i * 101 + m ∧ (∀ x, x ∈ ks ↔ ((∃ b e, b < i ∧ b ≤ e ∧ e ≤ W.length ∧ x = (W.drop b).take (e - b)) ∨ ∃ e, i ≤ e ∧ e < i + m ∧ x = (W.drop i).take (e - i))) ∧ Ex H H')
        (fun H3 e3 => ⟨kvs, ks, y3, rfl, e3 _ _ h2, hk, hn, by omega, fun x => (hm x).trans ⟨.inl, fun h => h.elim id fun ⟨e, h1, h2, _⟩ => absurd h2 (by omega)⟩, x2.trans e3⟩) ?_ ?_
      · clear hm hl hn hk h2 x2 ks kvs y3
        rintro m _ H3 hm' ⟨kvs, ks, y3, rfl, h3, hk, hn, hl, hm, x3⟩
        have hlk : kvs.length = ks.length := by
          have := congrArg List.length hk
          rw [List.length_map, List.length_map] at this
          exact this
        refine s_putK (kvs := kvs) (k := Sum.inr (S ((W.drop i).take m))) h3 (ev_var rfl) (ev_is (ev_slS (l := W) (ev_var rfl) (eo_some (ev_var rfl)) (eo_some (ev_var rfl)) (by omega)) (by
          rw [show (i : Int) + (m : Int) = ((i + m : Nat) : Int) by omega, cut_mid, Nat.add_sub_cancel_left]
          rfl)) ev_c (by omega) fun H4 e4 => ⟨_, addK ks ((W.drop i).take m), _, rfl, upd_same, keys_put hk, addK_nd hn, Nat.le_trans (addK_len _ _) (by omega), fun x => ?_, Ex.mut (x3.trans e4) hpf⟩
        rw [addK_mem, hm x]
        constructor
        · rintro ((h | ⟨e, a1, a2, a3⟩) | rfl)
          · exact .inl h
          · exact .inr ⟨e, a1, by omega, a3⟩
          · exact .inr ⟨i + m, by omega, by omega, by rw [Nat.add_sub_cancel_left]⟩
        · rintro (h | ⟨e, a1, a2, a3⟩)
          · exact .inl (.inl h)
          · by_cases c : e < i + m
            · exact .inl (.inr ⟨e, a1, c, a3⟩)
            · right
              rw [a3, show e - i = m by omega]
      · rintro _ H3 ⟨kvs, ks, y3, rfl, h3, hk, hn, hl, hm, x3⟩
        have ht : ((W.length : Int) + 1 - (i : Int)).toNat = W.length + 1 - i := by omega
        rw [ht] at hl hm
        refine ⟨kvs, ks, _, y3, rfl, h3, hk, hn, by omega, fun x => (hm x).trans ?_, x3⟩
        constructor
        · rintro (⟨b, e, a1, a2, a3, a4⟩ | ⟨e, a1, a2, a3⟩)
          · exact ⟨b, e, by omega, a2, a3, a4⟩
          · exact ⟨i, e, by omega, a1, by omega, a3⟩
        · rintro ⟨b, e, a1, a2, a3, a4⟩
          by_cases c : b < i
          · exact .inl ⟨b, e, c, a2, a3, a4⟩
          · obtain rfl : b = i := by omega
            exact .inr ⟨e, a2, by omega, a4⟩
    · rintro _ H2 ⟨kvs, ks, y2, y3, rfl, h2, hk, hn, hl, hm, x2⟩
      have ht : ((W.length : Int) + 1).toNat = W.length + 1 := by omega
      rw [ht] at hl hm
      refine s_retL (xs := (srt ks).map vS) (el_sortedD (ev_var rfl) h2 hk (by omega)) fun p H3 hp e3 h3 => ?_
      rw [pieces_of hn fun x => (hm x).trans ⟨fun ⟨b, e, _, a2, a3, a4⟩ => infix_cut.mpr ⟨b, e, a2, a3, a4⟩, fun h => by
        obtain ⟨b, e, a1, a2, a3⟩ := infix_cut.mp h
        exact ⟨b, e, by omega, a1, a2, a3⟩⟩] at h3
      exact k.go x2 hp e3 h3

abbrev s_check_word : Stmt := topS 8
abbrev nm_check_word : List Str := ["word"]
theorem sc_check_word : FnScope nm_check_word ["word"] (defScope s_check_word) := ⟨rfl, rfl, rfl, by decide +kernel, rfl, by decide +kernel, by decide +kernel⟩
theorem ok_check_word {f : Addr} {fd : FuncData} {a_BadWord : Addr} (F : Fun K "check_word" "check_word" s_check_word f fd) (B : Bl mg) (c_is_text : Cal P w K mg base 1 "is_text" ["thing"] (sp_is_text)) (e_BadWord : Er K mg "BadWord" (a_BadWord) bmE) :
    FnOk P w K mg base (L2.CX P w) 2 f fd ["word"] (sp_check a_BadWord) := by
  refine F.okX sc_check_word (fun vs H Q E h => ?_) (fun cdv A outer s H vs Q E hr h => ?_)
  · obtain ⟨v, n, rfl, hT, k1, k2⟩ := h
    first | rfl | (rw [List.length_cons, hl]; rfl)
  · obtain ⟨v, n, rfl, hT, k1, k2⟩ := h
    refine ⟨_, (pss_one (ps_if (pt_not (pt_val (pe_cal c_is_text (hr.mono (by decide)) (by rfl) (passes_call (takes_of rfl rfl rfl rfl) (fun _ _ _ _ h => h)) (pa_cons (pv 0) pa_nil)))) (pss_one (ps_raise rfl (takes_of rfl rfl rfl rfl) (pmk_own PySem.F.excBase_ValueError e_BadWord.x e_BadWord.g e_BadWord.k (raises_own e_BadWord.b e_BadWord.t) rfl))) pss_nil)), ?_⟩
    refine s_when (et_not (et_B (ev_call (ea_cons (ev_var rfl) ea_nil) (z := .bl (isText v)) ?_))) (fun hb H1 e1 => ?_) (fun hb H1 e1 => ?_)
    · exact fun H1 e1 Q q E => ⟨v, n, rfl, hT.ex e1, q⟩
    · exact k2 (by simpa using hb) H1 e1
    · exact (k1 (by simpa using hb)).go e1

abbrev s_law_number : Stmt := topS 17
abbrev nm_law_number : List Str := ["_law_cell", "_law_k", "_law_limit"]
theorem sc_law_number : FnScope nm_law_number ["_law_cell", "_law_k", "_law_limit"] (defScope s_law_number) := ⟨rfl, rfl, rfl, by decide +kernel, rfl, by decide +kernel, by decide +kernel⟩
theorem ok_law_number {f : Addr} {fd : FuncData} (F : Fun K "_law_number" "_law_number" s_law_number f fd) (B : Bl mg) (c_law_draw : Cal P w K mg base 1 "_law_draw" ["_law_cell", "_law_k", "_law_most"] (sp_draw)) :
    FnOk P w K mg base (L2.CX P w) 2 f fd ["_law_cell", "_law_k", "_law_limit"] (sp_number) := by
  refine F.okX sc_law_number (fun vs H Q E h => ?_) (fun cdv A outer s H vs Q E hr h => ?_)
  · obtain ⟨c, i, m, rfl, hc, hi, hm, k⟩ := h
    first | rfl | (rw [List.length_cons, hl]; rfl)
  · obtain ⟨c, i, m, rfl, hc, hi, hm, k⟩ := h
    refine ⟨_, (pss_cons (ps_if (pt_cmpR op_ge (pv 0) (pe_op op_pow pe_int pe_int) (nomark _)) (pss_one (ps_ret (pe_op op_mod (pe_op op_fdiv (pe_op op_sub (pv 0) (pe_op op_pow pe_int pe_int)) (pe_ix ix_tup (pe_tup (pa_cons pe_int (pa_cons pe_int (pa_cons pe_int (pa_cons pe_int (pa_cons pe_int pa_nil)))))) (pe_op op_mod (pv 1) pe_int) (fun _ _ => rfl))) (pv 2)))) pss_nil)
      (pss_one (ps_ret (pe_op op_mod (pe_cal c_law_draw (hr.mono (by decide)) (by rfl) (passes_call (takes_of rfl rfl rfl rfl) (fun _ _ _ _ h => h)) (pa_cons (pe_op op_mulV (pe_op op_add (pv 0) (pe_op op_mulV pe_int (pv 1))) (pe_op op_add (pe_op op_add (pv 0) (pe_op op_mulV pe_int (pv 1))) pe_int)) (pa_cons (pe_op op_add (pe_op op_mod (pv 1) pe_int) pe_int) (pa_cons pe_int pa_nil)))) (pv 2))))), ?_⟩
    refine q_when (et_test (ev_op (ev_var rfl) (ev_op ev_c ev_c (rv_I ⟨by decide, by decide, by decide⟩)) rv_I0)) (fun hb H1 e1 => ?_) (fun hb H1 e1 => ?_)
    · have hix : atI ([1, 7, 49, 343, 2401].map V.int) ((i : Int) % 5) = some (.int (([1, 7, 49, 343, 2401] : List Int).getD (i % 5) 1)) := by
        have e : ((i : Int) % 5) = ((i % 5 : Nat) : Int) := by omega
        have hlt : i % 5 < ([1, 7, 49, 343, 2401] : List Int).length := Nat.mod_lt _ (by decide)
        rw [e, atI_nat (j := i % 5)]
        rw [List.getElem?_map, List.getD_eq_getElem?_getD, List.getElem?_eq_getElem hlt]
        rfl
      have hd : CDiv (c - 10 ^ 18) (([1, 7, 49, 343, 2401] : List Int).getD (i % 5) 1) := by
        have h : ∀ j : Nat, j < 5 → CDiv (c - 10 ^ 18) (([1, 7, 49, 343, 2401] : List Int).getD j 1) := by
          unfold CDiv
          decide
        exact h _ (Nat.mod_lt _ (by decide))
      refine s_ret (ev_op (ev_op (ev_op (ev_var rfl) (ev_op ev_c ev_c (rv_I ⟨by decide, by decide, by decide⟩)) rv_I0) (ev_opU1 (eu_tup (vs := [1, 7, 49, 343, 2401].map V.int) (by repeat' (first | exact ea_nil | refine ea_cons ev_c ?_)) (by decide)) (ev_op (ev_var rfl) ev_c (rv_I (by decide))) (fun p H2 h2 e2 => rv_ixT (K := K) (st_of h2) hix)) (rv_I hd)) (ev_var rfl) (rv_I hm)) (fun H2 e2 => (k _ ?_ ?_).go (e1.trans e2))
      · exact Int.emod_nonneg _ (by omega)
      · exact Int.emod_lt_of_pos _ hm
    · have l1 : Lim 1048578 (c + 977 * (i : Int)) := (hc.add ((Lim.small (i := 977 * (i : Int)) (by omega) (by omega)).mono (by decide)))
      have l2 : Lim 1048579 (c + 31 * (i : Int) + 5) := (hc.add ((Lim.small (i := 31 * (i : Int)) (by omega) (by omega)).mono (by decide))).add ((Lim.small (i := 5) (by omega) (by omega)).mono (by decide))
      have s1 : ∀ z : Int, -1000 ≤ z → z ≤ 1000 → CMulV z (i : Int) := fun z z1 z2 => (Lim.small (i := z) (by omega) (by omega)).mulOk (Lim.small (i := (i : Int)) (by omega) (by omega)) (by decide)
      refine s_ret (ev_op (ev_call (ea_cons (ev_op (ev_op (ev_var rfl) (ev_op ev_c (ev_var rfl) (rv_I (s1 977 (by decide) (by decide)))) rv_I0) (ev_op (ev_op (ev_var rfl) (ev_op ev_c (ev_var rfl) (rv_I (s1 31 (by decide) (by decide)))) rv_I0) ev_c rv_I0) (rv_I (l1.mulOk l2 (by decide)))) (ea_cons (ev_op (ev_op (ev_var rfl) ev_c (rv_I (by decide))) ev_c rv_I0) (ea_cons ev_c ea_nil)))
        (z := .int (drawF ((c + 977 * (i : Int)) * (c + 31 * (i : Int) + 5)) (i % 9 + 1) 999983)) ?_) (ev_var rfl) (rv_I hm)) (fun H2 e2 => (k _ ?_ ?_).go (e1.trans e2))
      · exact fun H2 e2 Q q E => ⟨_, i % 9 + 1, _, by
          show [_, _, _] = [_, _, _]
          rw [show ((i % 9 + 1 : Nat) : Int) = (i : Int) % 9 + 1 by omega], (l1.mul l2).mono (by decide), by omega, by decide, q⟩
      · exact Int.emod_nonneg _ (by omega)
      · exact Int.emod_lt_of_pos _ hm

abbrev s_law_letters : Stmt := topS 18
abbrev nm_law_letters : List Str := ["_law_script", "_law_by"]
theorem sc_law_letters : FnScope nm_law_letters ["_law_script", "_law_by"] (defScope s_law_letters) := ⟨rfl, rfl, rfl, by decide +kernel, rfl, by decide +kernel, by decide +kernel⟩
theorem ok_law_letters {f : Addr} {fd : FuncData} (F : Fun K "_law_letters" "_law_letters" s_law_letters f fd) (B : Bl mg) (c_law_cell_at : Cal P w K mg base 1 "_law_cell_at" ["_law_script", "_law_k"] (sp_cell K)) (c_law_draw : Cal P w K mg base 1 "_law_draw" ["_law_cell", "_law_k", "_law_most"] (sp_draw)) :
    FnOk P w K mg base (L2.CX P w) 2 f fd ["_law_script", "_law_by"] (sp_letters K) := by
  refine F.okX sc_law_letters (fun vs H Q E h => ?_) (fun cdv A outer s H vs Q E hr h => ?_)
  · obtain ⟨a, ns, b, rfl, hS, hl, hb, k⟩ := h
    first | rfl | (rw [List.length_cons, hl]; rfl)
  · obtain ⟨a, ns, b, rfl, hS, hl, hb, k⟩ := h
    refine ⟨_, (pss_one (ps_ret (pe_ix ix_tup (pe_tup (pa_cons pe_str (pa_cons pe_str (pa_cons pe_str (pa_cons pe_str (pa_cons pe_str pa_nil)))))) (pe_cal c_law_draw (hr.mono (by decide)) (by rfl) (passes_call (takes_of rfl rfl rfl rfl) (fun _ _ _ _ h => h)) (pa_cons (pe_op op_add (pe_cal c_law_cell_at (hr.mono (by decide)) (by rfl) (passes_call (takes_of rfl rfl rfl rfl) (fun _ _ _ _ h => h)) (pa_cons (pv 0) (pa_cons pe_int pa_nil))) (pv 1)) (pa_cons pe_int (pa_cons pe_int pa_nil)))) (fun _ _ => rfl)))), ?_⟩
    have hd1 := draw_lo (c := cellAt ns 0 + b) (k := 6) (m := 5) (by decide)
    have hd2 := draw_hi (c := cellAt ns 0 + b) (k := 6) (m := 5) (by decide)
    have hix : atI (lsets.map vS) (drawF (cellAt ns 0 + b) 6 5) = some (vS (lettersF (cellAt ns 0 + b))) := by
      have e : drawF (cellAt ns 0 + b) 6 5 = ((drawF (cellAt ns 0 + b) 6 5).toNat : Int) := by omega
      have hlt : (drawF (cellAt ns 0 + b) 6 5).toNat < lsets.length := by
        show _ < 5
        omega
      rw [e, atI_nat (j := (drawF (cellAt ns 0 + b) 6 5).toNat)]
      unfold lettersF
      rw [List.getElem?_map, List.getD_eq_getElem?_getD, List.getElem?_eq_getElem hlt]
      rfl
    refine s_ret (ev_opU1 (eu_tup (vs := lsets.map vS) (by repeat' (first | exact ea_nil | refine ea_cons ev_c ?_)) (by decide)) (ev_call (ea_cons (ev_op (ev_call (ea_cons (ev_var rfl) (ea_cons ev_c ea_nil)) (z := .int (cellAt ns 0)) ?_) (ev_var rfl) rv_I0) (ea_cons ev_c (ea_cons ev_c ea_nil))) (z := .int (drawF (cellAt ns 0 + b) 6 5)) ?_) (fun p H2 h2 e2 => rv_ixT (K := K) (st_of h2) hix)) (fun H2 e2 => k.go e2)
    · exact fun H2 e2 Q q E => ⟨a, ns, 0, rfl, ex_l e2 hS, q⟩
    · exact fun H2 e2 Q q E => ⟨_, 6, _, rfl, ((cell_lim hl).add ((Lim.small (i := (b : Int)) (by omega) (by omega)).mono (by decide))).mono (by decide), by decide, by decide, q⟩

abbrev s_many : Stmt := topS 12
abbrev nm_many : List Str := ["word", "end", "same"]
theorem sc_many : FnScope nm_many ["word"] (defScope s_many) := ⟨rfl, rfl, rfl, by decide +kernel, rfl, by decide +kernel, by decide +kernel⟩
theorem ok_many {f : Addr} {fd : FuncData} {a_BadWord : Addr} (F : Fun K "many" "many" s_many f fd) (B : Bl mg) (c_check_word : Cal P w K mg base 2 "check_word" ["word"] (sp_check a_BadWord)) (c_ends_in_order : Cal P w K mg base 1 "ends_in_order" ["word"] (sp_ends)) :
    FnOk P w K mg base (L2.CX P w) 3 f fd ["word"] (sp_many a_BadWord) := by
  refine F.okX sc_many (fun vs H Q E h => ?_) (fun cdv A outer s H vs Q E hr h => ?_)
  · obtain ⟨v, n, rfl, hT, k1, k2⟩ := h
    first | rfl | (rw [List.length_cons, hl]; rfl)
  · obtain ⟨v, n, rfl, hT, k1, k2⟩ := h
    refine ⟨_, (pss_cons (ps_expr (pe_cal c_check_word (hr.mono (by decide)) (by rfl) (passes_call (takes_of rfl rfl rfl rfl) (fun _ _ _ _ h => h)) (pa_cons (pv 0) pa_nil)))
      (pss_one (ps_ret (pe_op op_add pe_int (pe_callB (cr_sum rfl) (by rfl) B.sum_ (by decide +kernel) (pa_cons (pe_lc (own := [("end", 1), ("same", 2)]) (g := (gTup K 2 (gCons (gName 1) (gCons (gName 2) gNil)))) rfl sc_many.nd (pi_list (pe_cal c_ends_in_order (hr.mono (by decide)) (by rfl) (passes_call (takes_of rfl rfl rfl rfl) (fun _ _ _ _ h => h)) (pa_cons (pv 0) pa_nil))) (blkOk_by (N := nm_many) (sc := defScope s_many) (by decide +kernel)) (fun _ _ _ _ _ => by exact (pg_tup rfl (pgs_cons (pg_name (i := 1) sc_many.nd rfl (.inl rfl)) (pgs_cons (pg_name (i := 2) sc_many.nd rfl (.inl rfl)) pgs_nil)))) (fun _ _ _ _ _ => by exact pts_nil) (fun _ _ _ _ _ => by exact (pe_op op_sub (pe_callB call_len_str (by rfl) B.len PySem.boot_len (pa_cons (pv 1) pa_nil)) (pv 2)))) pa_nil)))))), ?_⟩
    refine q_dropC (ea_cons (ev_var rfl) ea_nil) fun H1 e1 => ?_
    refine ⟨v, n, rfl, hT.ex e1, fun h1 H2 e2 => ?_, fun h1 H2 e2 => k1 h1 H2 (e1.trans e2)⟩
    obtain ⟨W, rfl, hw⟩ := text_wd hT h1
    have hwl := hw.1
    refine s_ret (v := .int ((piecesF W).length : Nat)) (ev_is (ev_op ev_c (ev_sum (K := K) (ns := (endsP W).map fun e => ((e.1.length - e.2 : Nat) : Int)) ?_) rv_I0) ?_) fun H3 e3 => (k2 W rfl hw).go ((e1.trans e2).trans e3)
    · have e : ((endsP W).map fun e => ((e.1.length - e.2 : Nat) : Int)).map V.int = ((endsP W).filter fun _ => true).map fun e => V.int ((e.1.length - e.2 : Nat) : Int) := by
        rw [List.filter_eq_self.mpr (fun _ _ => rfl), List.map_map]
        rfl
      rw [e]
      refine el_lcT (fun _ => true) _ (ep_ends (ev_var rfl) hwl) (by rw [ends_len]; omega) (fun x y => rfl) (fun e H3 he e3 => et_yes) (fun e H3 he e3 _ => ?_)
      have ho := ends_ok he
      refine ev_is (ev_op (ev_lenS (l := e.1) (ev_var rfl) (by omega)) (ev_var rfl) rv_I0) ?_
      show V.int ((e.1.length : Int) - (e.2 : Int)) = _
      rw [Int.ofNat_sub ho.1]
    · have e : ((endsP W).map fun e => ((e.1.length - e.2 : Nat) : Int)) = ((endsP W).map fun e => e.1.length - e.2).map fun n : Nat => (n : Int) := by
        rw [List.map_map]
        rfl
      rw [e, sum_int, pieces_len]
      show V.int (1 + _) = V.int _
      rw [Int.natCast_add]
      rfl

abbrev s_of_length : Stmt := topS 13
abbrev nm_of_length : List Str := ["word", "size", "end", "same"]
theorem sc_of_length : FnScope nm_of_length ["word", "size"] (defScope s_of_length) := ⟨rfl, rfl, rfl, by decide +kernel, rfl, by decide +kernel, by decide +kernel⟩
theorem ok_of_length {f : Addr} {fd : FuncData} {a_BadNumber : Addr} {a_BadWord : Addr} (F : Fun K "of_length" "of_length" s_of_length f fd) (B : Bl mg) (c_check_word : Cal P w K mg base 2 "check_word" ["word"] (sp_check a_BadWord)) (c_is_number : Cal P w K mg base 1 "is_number" ["thing"] (sp_is_number)) (c_ends_in_order : Cal P w K mg base 1 "ends_in_order" ["word"] (sp_ends)) (e_BadNumber : Er K mg "BadNumber" (a_BadNumber) bmE) :
    FnOk P w K mg base (L2.CX P w) 3 f fd ["word", "size"] (sp_oflen a_BadWord a_BadNumber) := by
  refine F.okX sc_of_length (fun vs H Q E h => ?_) (fun cdv A outer s H vs Q E hr h => ?_)
  · obtain ⟨v1, n1, v2, n2, rfl, hT1, hT2, k1, k2, k3⟩ := h
    first | rfl | (rw [List.length_cons, hl]; rfl)
  · obtain ⟨v1, n1, v2, n2, rfl, hT1, hT2, k1, k2, k3⟩ := h
    refine ⟨_, (pss_cons (ps_expr (pe_cal c_check_word (hr.mono (by decide)) (by rfl) (passes_call (takes_of rfl rfl rfl rfl) (fun _ _ _ _ h => h)) (pa_cons (pv 0) pa_nil)))
      (pss_cons (ps_if (pt_not (pt_val (pe_cal c_is_number (hr.mono (by decide)) (by rfl) (passes_call (takes_of rfl rfl rfl rfl) (fun _ _ _ _ h => h)) (pa_cons (pv 1) pa_nil)))) (pss_one (ps_raise rfl (takes_of rfl rfl rfl rfl) (pmk_own PySem.F.excBase_ValueError e_BadNumber.x e_BadNumber.g e_BadNumber.k (raises_own e_BadNumber.b e_BadNumber.t) rfl))) pss_nil)
      (pss_cons (ps_if (pt_cmpR op_eq (pv 1) pe_int (nomark _)) (pss_one (ps_ret pe_int)) pss_nil)
      (pss_one (ps_ret (pe_callB call_len_seq (by rfl) B.len PySem.boot_len (pa_cons (pe_lc (own := [("end", 2), ("same", 3)]) (g := (gTup K 2 (gCons (gName 2) (gCons (gName 3) gNil)))) rfl sc_of_length.nd (pi_list (pe_cal c_ends_in_order (hr.mono (by decide)) (by rfl) (passes_call (takes_of rfl rfl rfl rfl) (fun _ _ _ _ h => h)) (pa_cons (pv 0) pa_nil))) (blkOk_by (N := nm_of_length) (sc := defScope s_of_length) (by decide +kernel)) (fun _ _ _ _ _ => by exact (pg_tup rfl (pgs_cons (pg_name (i := 2) sc_of_length.nd rfl (.inl rfl)) (pgs_cons (pg_name (i := 3) sc_of_length.nd rfl (.inl rfl)) pgs_nil)))) (fun _ _ _ _ _ => by exact (pts_one (pt_chain op_lt op_le (pv 3) (pv 1) (pe_callB call_len_str (by rfl) B.len PySem.boot_len (pa_cons (pv 2) pa_nil))))) (fun _ _ _ _ _ => by exact (pv 2))) pa_nil))))))), ?_⟩
    refine q_dropC (ea_cons (ev_var rfl) ea_nil) fun H1 e1 => ?_
    refine ⟨v1, n1, rfl, hT1.ex e1, fun h1 H2 e2 => ?_, fun h1 H2 e2 => k1 h1 H2 (e1.trans e2)⟩
    have x2 := e1.trans e2
    refine q_when (et_not (et_B (ev_call (ea_cons (ev_var rfl) ea_nil) (z := .bl (isNum v2)) ?_))) (fun hb H3 e3 => ?_) (fun hb H3 e3 => ?_)
    · exact fun H3 e3 Q q E => ⟨v2, n2, rfl, hT2.ex (x2.trans e3), q⟩
    · exact k2 h1 (by simpa using hb) H3 (x2.trans e3)
    · obtain ⟨W, rfl, hw⟩ := text_wd hT1 h1
      have hwl := hw.1
      obtain ⟨m, rfl⟩ := num_int hT2 (by simpa using hb)
      have x3 := x2.trans e3
      refine q_when (et_test (ev_op (ev_var rfl) ev_c rv_eqI)) (fun hb2 H4 e4 => ?_) (fun hb2 H4 e4 => ?_)
      · have h0 : m = 0 := by have := of_decide_eq_true hb2; omega
        subst h0
        refine s_ret ev_c fun H5 e5 => ?_
        have := (k3 W 0 rfl rfl hw).go ((x3.trans e4).trans e5)
        rw [ofLen_zero] at this
        exact this
      · have h0 : 0 < m := by have := of_decide_eq_false hb2; omega
        refine s_ret (v := .int (ofLen W m : Nat)) (ev_is (ev_lenN (K := K) (xs := ((endsP W).filter fun p => decide (p.2 < m ∧ m ≤ p.1.length)).map fun e => vS e.1) (el_lcT _ _ (ep_ends (ev_var rfl) hwl) (by rw [ends_len]; omega) (fun x y => rfl) (fun e H5 he e5 => ?_) (fun e H5 he e5 _ => ev_var rfl))) (by rw [List.length_map, ← ofLen_pos W h0])) fun H5 e5 => (k3 W m rfl rfl hw).go ((x3.trans e4).trans e5)
        have ho := ends_ok he
        refine et_is (et_test (ev_chain2 (ev_var rfl) (ev_var rfl) rv_I0 (ev_lenS (l := e.1) (ev_var rfl) (by omega)) rv_I0)) ?_
        rw [Bool.eq_iff_iff, Bool.and_eq_true, decide_eq_true_eq, decide_eq_true_eq, decide_eq_true_eq]
        omega

abbrev s_law_word : Stmt := topS 19
abbrev nm_law_word : List Str := ["_law_script", "_law_by", "_law_some", "_law_k", "_law_cell", "_law_text", "_law_kind", "_law_part", "_law_at"]
theorem sc_law_word : FnScope nm_law_word ["_law_script", "_law_by"] (defScope s_law_word) := ⟨rfl, rfl, rfl, by decide +kernel, rfl, by decide +kernel, by decide +kernel⟩
theorem ok_law_word {f : Addr} {fd : FuncData} (F : Fun K "_law_word" "_law_word" s_law_word f fd) (B : Bl mg) (c_law_cell_at : Cal P w K mg base 1 "_law_cell_at" ["_law_script", "_law_k"] (sp_cell K)) (c_law_draw : Cal P w K mg base 1 "_law_draw" ["_law_cell", "_law_k", "_law_most"] (sp_draw)) (c_law_number : Cal P w K mg base 2 "_law_number" ["_law_cell", "_law_k", "_law_limit"] (sp_number)) (c_law_letters : Cal P w K mg base 2 "_law_letters" ["_law_script", "_law_by"] (sp_letters K)) :
    FnOk P w K mg base (L2.CX P w) 3 f fd ["_law_script", "_law_by"] (sp_word K) := by
  refine F.okX sc_law_word (fun vs H Q E h => ?_) (fun cdv A outer s H vs Q E hr h => ?_)
  · obtain ⟨a, ns, b, rfl, hS, hl, hn, hb, k⟩ := h
    first | rfl | (rw [List.length_cons, hl]; rfl)
  · obtain ⟨a, ns, b, rfl, hS, hl, hn, hb, k⟩ := h
    refine ⟨_, (pss_cons (ps_set (i := 2) sc_law_word.nd rfl (.inr rfl) (pe_cal c_law_letters (hr.mono (by decide)) (by rfl) (passes_call (takes_of rfl rfl rfl rfl) (fun _ _ _ _ h => h)) (pa_cons (pv 0) (pa_cons (pv 1) pa_nil))))
      (pss_cons (ps_set (i := 5) sc_law_word.nd rfl (.inl rfl) (pe_bm PySem.F.plainAttrs_str PySem.F.slot_str_join PySem.F.type_str_join mt_join pe_str (pa_cons (pe_lc (own := [("_law_k", 3), ("_law_cell", 4)]) (g := (gTup K 2 (gCons (gName 3) (gCons (gName 4) gNil)))) rfl sc_law_word.nd (pi_enum (by rfl) B.enumerate (pa_cons (pe_slice sl_list (pv 0) po_none (po_some pe_int)) pa_nil)) (blkOk_by (N := nm_law_word) (sc := defScope s_law_word) (by decide +kernel)) (fun _ _ _ _ _ => by exact (pg_tup rfl (pgs_cons (pg_name (i := 3) sc_law_word.nd rfl (.inl rfl)) (pgs_cons (pg_name (i := 4) sc_law_word.nd rfl (.inl rfl)) pgs_nil)))) (fun _ _ _ _ _ => by exact pts_nil) (fun _ _ _ _ _ => by exact (pe_ix ix_str (pv 2) (pe_cal c_law_number (hr.mono (by decide)) (by rfl) passL (pa_cons (pv 4) (pa_cons (pe_op op_add (pv 3) (pv 1)) (pa_cons (pe_callB call_len_str (by rfl) B.len PySem.boot_len (pa_cons (pv 2) pa_nil)) pa_nil)))) (fun _ _ => rfl)))) pa_nil)))
      (pss_cons (ps_set (i := 6) sc_law_word.nd rfl (.inl rfl) (pe_cal c_law_draw (hr.mono (by decide)) (by rfl) (passes_call (takes_of rfl rfl rfl rfl) (fun _ _ _ _ h => h)) (pa_cons (pe_op op_add (pe_cal c_law_cell_at (hr.mono (by decide)) (by rfl) (passes_call (takes_of rfl rfl rfl rfl) (fun _ _ _ _ h => h)) (pa_cons (pv 0) (pa_cons pe_int pa_nil))) (pv 1)) (pa_cons pe_int (pa_cons pe_int pa_nil)))))
      (pss_cons (ps_set (i := 7) sc_law_word.nd rfl (.inl rfl) (pe_op op_add pe_int (pe_cal c_law_draw (hr.mono (by decide)) (by rfl) (passes_call (takes_of rfl rfl rfl rfl) (fun _ _ _ _ h => h)) (pa_cons (pe_op op_add (pe_cal c_law_cell_at (hr.mono (by decide)) (by rfl) (passes_call (takes_of rfl rfl rfl rfl) (fun _ _ _ _ h => h)) (pa_cons (pv 0) (pa_cons pe_int pa_nil))) (pv 1)) (pa_cons pe_int (pa_cons pe_int pa_nil))))))
      (Evl.pss_cut (ps_if (pt_cmpR op_eq (pv 6) pe_int (nomark _)) (pss_one (ps_set (i := 5) sc_law_word.nd rfl (.inl rfl) (pe_slice sl_str (pe_op op_mul_str (pe_slice sl_str (pv 5) po_none (po_some (pv 7))) pe_int) po_none (po_some (pe_callB call_len_str (by rfl) B.len PySem.boot_len (pa_cons (pv 5) pa_nil)))))) pss_nil)
      (Evl.pss_cut (ps_if (PW.pt (pw_and (pt_cmpR op_eq (pv 6) pe_int (nomark _)) (pw_and1 (pt_cmpR op_ne (pv 5) pe_str (nomark _))))) (pss_cons (ps_set (i := 8) sc_law_word.nd rfl (.inl rfl) (pe_cal c_law_draw (hr.mono (by decide)) (by rfl) (passes_call (takes_of rfl rfl rfl rfl) (fun _ _ _ _ h => h)) (pa_cons (pe_cal c_law_cell_at (hr.mono (by decide)) (by rfl) (passes_call (takes_of rfl rfl rfl rfl) (fun _ _ _ _ h => h)) (pa_cons (pv 0) (pa_cons pe_int pa_nil))) (pa_cons pe_int (pa_cons (pe_callB call_len_str (by rfl) B.len PySem.boot_len (pa_cons (pv 5) pa_nil)) pa_nil)))))
      (pss_cons (ps_set (i := 5) sc_law_word.nd rfl (.inl rfl) (pe_slice sl_str (pe_op op_mul_str (pe_slice sl_str (pv 5) po_none (po_some (pv 7))) pe_int) po_none (po_some (pe_callB call_len_str (by rfl) B.len PySem.boot_len (pa_cons (pv 5) pa_nil)))))
      (pss_one (ps_set (i := 5) sc_law_word.nd rfl (.inl rfl) (pe_op op_add_str (pe_op op_add_str (pe_slice sl_str (pv 5) po_none (po_some (pv 8))) (pe_ix ix_str (pv 2) (pe_op op_mod (pv 8) (pe_callB call_len_str (by rfl) B.len PySem.boot_len (pa_cons (pv 2) pa_nil))) (fun _ _ => rfl))) (pe_slice sl_str (pv 5) (po_some (pe_op op_add (pv 8) pe_int)) po_none)))))) pss_nil)
      (Evl.pss_cut (ps_if (pt_cmpR op_eq (pv 6) pe_int (nomark _)) (pss_one (ps_set (i := 5) sc_law_word.nd rfl (.inl rfl) (pe_slice sl_str (pe_op op_add_str (pe_op op_add_str (pe_slice sl_str (pv 5) po_none (po_some pe_int)) (pe_slice sl_str (pv 5) po_none (po_some (pv 7)))) (pe_slice sl_str (pv 5) po_none (po_some pe_int))) po_none (po_some pe_int)))) pss_nil)
      (Evl.pss_cut (ps_if (pt_cmpR op_eq (pe_cal c_law_draw (hr.mono (by decide)) (by rfl) (passes_call (takes_of rfl rfl rfl rfl) (fun _ _ _ _ h => h)) (pa_cons (pe_op op_add (pe_cal c_law_cell_at (hr.mono (by decide)) (by rfl) (passes_call (takes_of rfl rfl rfl rfl) (fun _ _ _ _ h => h)) (pa_cons (pv 0) (pa_cons pe_int pa_nil))) (pv 1)) (pa_cons pe_int (pa_cons pe_int pa_nil)))) pe_int (nomark _)) (pss_one (ps_set (i := 5) sc_law_word.nd rfl (.inl rfl) (pe_slice sl_str (pe_op op_mul_str (pv 5) pe_int) po_none (po_some (pe_op op_add pe_int (pe_cal c_law_draw (hr.mono (by decide)) (by rfl) (passes_call (takes_of rfl rfl rfl rfl) (fun _ _ _ _ h => h)) (pa_cons (pe_cal c_law_cell_at (hr.mono (by decide)) (by rfl) (passes_call (takes_of rfl rfl rfl rfl) (fun _ _ _ _ h => h)) (pa_cons (pv 0) (pa_cons pe_int pa_nil))) (pa_cons pe_int (pa_cons pe_int pa_nil))))))))) pss_nil)
      (pss_one (ps_ret (pv 5))))))))))), ?_⟩
    have ne := letters_ne (cellAt ns 0 + b)
    generalize hls : lettersF (cellAt ns 0 + b) = ls at k ne
    have dr : ∀ (j i : Nat) (z m : Int) (H1 : Hp), i ≤ 1000 → 0 ≤ z → z ≤ 1000 → 0 < m → SpV sp_draw [.int (cellAt ns j + z), .int (i : Int), .int m] H1 (.int (drawF (cellAt ns j + z) i m)) := fun j i z m H1 hi z1 z2 hm H2 e2 Q q E =>
      ⟨_, i, _, rfl, ((cell_lim hl).add ((Lim.small (i := z) (by omega) (by omega)).mono (by decide))).mono (by decide), by omega, hm, q⟩
    have dr0 : ∀ (j i : Nat) (m : Int) (H1 : Hp), i ≤ 1000 → 0 < m → SpV sp_draw [.int (cellAt ns j), .int (i : Int), .int m] H1 (.int (drawF (cellAt ns j) i m)) := fun j i m H1 hi hm H2 e2 Q q E =>
      ⟨_, i, _, rfl, (cell_lim hl).mono (by decide), by omega, hm, q⟩
    have ce : ∀ (j : Nat) (H1 : Hp), Ex H H1 → SpV (sp_cell K) [.ref a, .int (j : Int)] H1 (.int (cellAt ns j)) := fun j H1 e1 H2 e2 Q q E => ⟨a, ns, j, rfl, ex_l (e1.trans e2) hS, q⟩
    refine q_asg (v := vS ls) (ev_call (ea_cons (ev_var rfl) (ea_cons (ev_var rfl) ea_nil)) ?_) fun H1 e1 => ?_
    · exact fun H2 e2 Q q E => ⟨a, ns, b, rfl, ex_l e2 hS, hl, hb, by rw [hls]; exact q⟩
    have hcut : cutV (ns.map V.int) none (some 63) = ns.map V.int := by
      unfold cutV
      rw [HT.sIx_none, List.drop_zero, Nat.sub_zero, show HT.sIx (ns.map V.int).length (ns.map V.int).length (some 63) = min 63 (ns.map V.int).length from HT.sIx_nat _ _ 63, List.length_map, Nat.min_eq_right hn]
      exact List.take_of_length_le (by rw [List.length_map]; exact Nat.le_refl _)
    refine q_asgQ (P := fun v => ∃ l, v = vS l ∧ Gd ls 63 l) ?_ fun v H2 hv e2 => ?_
    · refine EvQ.imp (eq_join (K := K) (ls := ls) (n := (ns.map V.int).length) (by rw [List.length_map]; omega)
        (eq_lcE (K := K) (i := 3) (j := 4) (vs := [3, 4]) (fun _ y => ∃ c, y = vS [c] ∧ c ∈ ls)
        (hcut ▸ el_sl (K := K) (ev_var rfl) eo_none (eo_some ev_c) (ex_l e1 hS)) (by rw [List.length_map]; omega) (fun x y => rfl) (fun i x H3 e3 hx =>
          eq_op2 (x := vS ls) (ev_var rfl) (eq_call (P := fun v => ∃ r : Int, v = .int r ∧ 0 ≤ r ∧ r < ls.length) (ea_cons (ev_var rfl) (ea_cons (ev_op (ev_var rfl) (ev_var rfl) rv_I0) (ea_cons (ev_lenS (l := ls) (ev_var rfl) (by omega)) ea_nil))) ?_) ?_))) (fun v hv => by
          obtain ⟨l, e, g⟩ := hv
          exact ⟨l, e, g.mono (by rw [List.length_map]; exact hn)⟩)
      · rw [List.getElem?_map] at hx
        obtain ⟨z, hz, rfl⟩ : ∃ z, ns[i]? = some z ∧ x = V.int z := by
          cases e : ns[i]? with
          | none => rw [e] at hx; cases hx
          | some z => rw [e] at hx; exact ⟨z, rfl, (Option.some.inj hx).symm⟩
        have hi : i < ns.length := (List.getElem?_eq_some_iff.mp hz).1
        exact fun G1 f1 Q q E => ⟨z, i + b, _, rfl, hl z (List.mem_of_getElem? hz), by omega, by omega, fun r r1 r2 G2 f2 => q _ G2 ⟨r, rfl, r1, r2⟩ f2⟩
      · rintro y ⟨r, rfl, r1, r2⟩
        obtain ⟨c, h1, h2⟩ := at_mem r1 r2
        exact ⟨vS [c], ⟨c, rfl, h2⟩, rv_ixS' (by omega) h1⟩
    obtain ⟨l, rfl, hg⟩ := hv
    have x2 : Ex H H2 := e1.trans e2
    -- kind, part
    refine q_asg (v := .int (drawF (cellAt ns 1 + b) 7 6)) (ev_call (ea_cons (ev_op (ev_call (ea_cons (ev_var rfl) (ea_cons ev_c ea_nil)) (ce 1 H2 x2)) (ev_var rfl) rv_I0) (ea_cons ev_c (ea_cons ev_c ea_nil))) (dr 1 7 b 6 H2 (by decide) (by omega) (by omega) (by decide))) fun H3 e3 => ?_
    generalize drawF (cellAt ns 1 + b) 7 6 = kd
    refine q_asg (ev_op ev_c (ev_call (ea_cons (ev_op (ev_call (ea_cons (ev_var rfl) (ea_cons ev_c ea_nil)) (ce 2 H3 (x2.trans e3))) (ev_var rfl) rv_I0) (ea_cons ev_c (ea_cons ev_c ea_nil))) (dr 2 4 b 9 H3 (by decide) (by omega) (by omega) (by decide))) rv_I0) fun H4 e4 => ?_
    obtain ⟨pt, hpt, hp9⟩ : ∃ pt : Nat, 1 + drawF (cellAt ns 2 + b) 4 9 = (pt : Int) ∧ pt ≤ 9 := by
      have h1 := draw_lo (c := cellAt ns 2 + b) (k := 4) (m := 9) (by decide)
      have h2 := draw_hi (c := cellAt ns 2 + b) (k := 4) (m := 9) (by decide)
      exact ⟨(1 + drawF (cellAt ns 2 + b) 4 9).toNat, by omega, by omega⟩
    rw [hpt]
    have x4 : Ex H H4 := (x2.trans e3).trans e4
    have rp : ∀ (l : List Nat) (H1 : Hp), Gd ls 63 l → RV rMulS (vS (cut l none (some (pt : Int)))) (.int 63) H1 (vS ((List.replicate 63 (cut l none (some (pt : Int)))).flatten)) := fun l H1 g => rv_mulS (n := 63) (by have := (g.to (i := (pt : Int)) (k := 9) (by omega) (by omega)).1; omega) (by decide)
    have rg : ∀ (l : List Nat), Gd ls 63 l → Gd ls 63 (cut ((List.replicate 63 (cut l none (some (pt : Int)))).flatten) none (some (l.length : Int))) := fun l g => ((g.to (i := (pt : Int)) (k := 9) (by omega) (by omega)).rep 63).to (by omega) (by have := g.1; omega)
    have rl : ∀ (l : List Nat), Gd ls 63 l → ((List.replicate 63 (cut l none (some (pt : Int)))).flatten).length ≤ 1000000 := fun l g => by
      have := ((g.to (i := (pt : Int)) (k := 9) (by omega) (by omega)).rep 63).1
      omega
    -- if kind == 1
    refine ⟨fun σ' H' => ∃ l x8, σ' = [some (.ref a), some (.int (b : Int)), some (vS ls), none, none, some (vS l), some (.int kd), some (.int (pt : Int)), x8] ∧ Gd ls 63 l ∧ Ex H H', ?_, ?_⟩
    · refine s_when (et_test (ev_op (ev_var rfl) ev_c rv_eqI)) (fun _ H5 e5 => ?_) (fun _ H5 e5 => ⟨l, none, rfl, hg, x4.trans e5⟩)
      refine s_asg (ev_slS (l := (List.replicate 63 (cut l none (some (pt : Int)))).flatten) (ev_op (ev_slS (ev_var rfl) eo_none (eo_some (ev_var rfl)) (by have := hg.1; omega)) ev_c (rp l H5 hg)) eo_none (eo_some (ev_lenS (l := l) (ev_var rfl) (by have := hg.1; omega))) (rl l hg)) fun H6 e6 => ⟨_, none, rfl, rg l hg, (x4.trans e5).trans e6⟩
    clear hg x4 l
    rintro _ H4 ⟨l, x8, rfl, hg, x4⟩
    -- if kind == 2 and text != ""
    refine ⟨fun σ' H' => ∃ l x8, σ' = [some (.ref a), some (.int (b : Int)), some (vS ls), none, none, some (vS l), some (.int kd), some (.int (pt : Int)), x8] ∧ Gd ls 63 l ∧ Ex H H', ?_, ?_⟩
    · refine s_when (et_and (et_test (ev_op (ev_var rfl) ev_c rv_eqI)) fun _ => et_test (ev_op (ev_var rfl) ev_c (rv_neS (b := [])))) (fun hc H5 e5 => ?_) (fun _ H5 e5 => ⟨l, x8, rfl, hg, x4.trans e5⟩)
      have x5 := x4.trans e5
      have hne : l ≠ [] := by
        rw [Bool.and_eq_true, Bool.not_eq_true', decide_eq_false_iff_not] at hc
        exact hc.2
      have hpos : 0 < l.length := List.length_pos_iff.mpr hne
      refine q_asg (ev_call (ea_cons (ev_call (ea_cons (ev_var rfl) (ea_cons ev_c ea_nil)) (ce 3 H5 x5)) (ea_cons ev_c (ea_cons (ev_lenS (l := l) (ev_var rfl) (by have := hg.1; omega)) ea_nil))) (dr0 3 5 _ H5 (by decide) (by omega))) fun H6 e6 => ?_
      have d1 := draw_lo (c := cellAt ns 3) (k := 5) (m := (l.length : Int)) (by omega)
      have d2 := draw_hi (c := cellAt ns 3) (k := 5) (m := (l.length : Int)) (by omega)
      generalize drawF (cellAt ns 3) 5 (l.length : Int) = at_ at d1 d2 ⊢
      obtain ⟨j, rfl⟩ := Int.eq_ofNat_of_zero_le d1
      refine q_asg (ev_slS (l := (List.replicate 63 (cut l none (some (pt : Int)))).flatten) (ev_op (ev_slS (ev_var rfl) eo_none (eo_some (ev_var rfl)) (by have := hg.1; omega)) ev_c (rp l H6 hg)) eo_none (eo_some (ev_lenS (l := l) (ev_var rfl) (by have := hg.1; omega))) (rl l hg)) fun H7 e7 => ?_
      have g2 := rg l hg
      generalize cut ((List.replicate 63 (cut l none (some (pt : Int)))).flatten) none (some (l.length : Int)) = l2 at g2 ⊢
      obtain ⟨c, hc1, hc2⟩ := at_mem (l := ls) (i := (j : Int) % (ls.length : Int)) (Int.emod_nonneg _ (by omega)) (Int.emod_lt_of_pos _ (by omega))
      have hl63 := hg.1
      have g2l := g2.1
      have len1 : (cut l2 none (some (j : Int))).length ≤ l2.length := cut_len _ _ _
      have len2 : (cut l2 (some ((j : Int) + 1)) none).length ≤ l2.length := cut_len _ _ _
      refine s_asg (v := vS ((cut l2 none (some (j : Int)) ++ [c]) ++ cut l2 (some ((j : Int) + 1)) none)) (ev_op (ev_op (ev_slS (ev_var rfl) eo_none (eo_some (ev_var rfl)) (by omega)) (ev_op (ev_var rfl) (ev_op (ev_var rfl) (ev_lenS (ev_var rfl) (by omega)) (rv_I (by show (0 : Int) < _; omega))) (rv_ixS' (by omega) hc1)) (rv_addS (by rw [List.length_singleton]; omega))) (ev_slS (ev_var rfl) (eo_some (ev_op (ev_var rfl) ev_c rv_I0)) eo_none (by omega)) (rv_addS (by rw [List.length_append, List.length_singleton]; omega))) fun H8 e8 => ?_
      refine ⟨_, some (.int (j : Int)), rfl, ⟨?_, fun d hd => ?_⟩, ((x5.trans e6).trans e7).trans e8⟩
      · rw [show ((j : Int) + 1) = ((j + 1 : Nat) : Int) by omega, cut_to, cut_from, List.length_append, List.length_append, List.length_take, List.length_drop, List.length_singleton]
        have : (j : Int) < l.length := d2
        omega
      · rcases List.mem_append.mp hd with h | h
        · rcases List.mem_append.mp h with h | h
          · exact g2.2 d (cut_mem h)
          · rw [List.mem_singleton.mp h]
            exact hc2
        · exact g2.2 d (cut_mem h)
    clear hg x4 l x8
    rintro _ H4 ⟨l, x8, rfl, hg, x4⟩
    -- if kind == 3
    refine ⟨fun σ' H' => ∃ l x8, σ' = [some (.ref a), some (.int (b : Int)), some (vS ls), none, none, some (vS l), some (.int kd), some (.int (pt : Int)), x8] ∧ Gd ls 63 l ∧ Ex H H', ?_, ?_⟩
    · refine s_when (et_test (ev_op (ev_var rfl) ev_c rv_eqI)) (fun _ H5 e5 => ?_) (fun _ H5 e5 => ⟨l, x8, rfl, hg, x4.trans e5⟩)
      have hl63 := hg.1
      have l1 : (cut l none (some 20)).length ≤ l.length := cut_len _ _ _
      have l2 : (cut l none (some (pt : Int))).length ≤ l.length := cut_len _ _ _
      refine s_asg (ev_slS (ev_op (ev_op (ev_slS (ev_var rfl) eo_none (eo_some ev_c) (by omega)) (ev_slS (ev_var rfl) eo_none (eo_some (ev_var rfl)) (by omega)) (rv_addS (by omega))) (ev_slS (ev_var rfl) eo_none (eo_some ev_c) (by omega)) (rv_addS (by rw [List.length_append]; omega))) eo_none (eo_some ev_c) (by rw [List.length_append, List.length_append]; omega)) fun H6 e6 => ⟨_, x8, rfl, ((hg.cut.app hg.cut).app hg.cut).to (by decide) (by decide), (x4.trans e5).trans e6⟩
    clear hg x4 l x8
    rintro _ H4 ⟨l, x8, rfl, hg, x4⟩
    -- to a hundred
    refine ⟨fun σ' H' => ∃ l x8, σ' = [some (.ref a), some (.int (b : Int)), some (vS ls), none, none, some (vS l), some (.int kd), some (.int (pt : Int)), x8] ∧ Gd ls 100 l ∧ Ex H H', ?_, ?_⟩
    · refine s_when (et_test (ev_op (ev_call (ea_cons (ev_op (ev_call (ea_cons (ev_var rfl) (ea_cons ev_c ea_nil)) (ce 2 H4 x4)) (ev_var rfl) rv_I0) (ea_cons ev_c (ea_cons ev_c ea_nil))) (dr 2 9 b 24 H4 (by decide) (by omega) (by omega) (by decide))) ev_c rv_eqI)) (fun _ H5 e5 => ?_) (fun _ H5 e5 => ⟨l, x8, rfl, hg.mono (by decide), x4.trans e5⟩)
      have hl63 := hg.1
      have d1 := draw_lo (c := cellAt ns 0) (k := 5) (m := 37) (by decide)
      have d2 := draw_hi (c := cellAt ns 0) (k := 5) (m := 37) (by decide)
      refine s_asg (ev_slS (ev_op (ev_var rfl) ev_c (rv_mulS (n := 100) (by omega) (by decide))) eo_none (eo_some (ev_op ev_c (ev_call (ea_cons (ev_call (ea_cons (ev_var rfl) (ea_cons ev_c ea_nil)) (ce 0 H5 (x4.trans e5))) (ea_cons ev_c (ea_cons ev_c ea_nil))) (dr0 0 5 37 H5 (by decide) (by decide))) rv_I0)) (by have := (hg.rep 100).1; omega)) fun H6 e6 => ⟨_, x8, rfl, (hg.rep 100).to (by omega) (by omega), (x4.trans e5).trans e6⟩
    rintro _ H5 ⟨l, x8, rfl, hg, x5⟩
    exact s_ret (ev_var rfl) fun H6 e6 => (k l hg.1 hg.2).go (x5.trans e6)

abbrev s_law : Stmt := topS 22
abbrev nm_law : List Str := ["_law_script", "_law_word_here", "_law_every", "_law_found", "_law_counts", "_law_piece", "_law_sizes", "_law_k", "_law_size", "_law_count"]
theorem sc_law : FnScope nm_law ["_law_script"] (defScope s_law) := ⟨rfl, rfl, rfl, by decide +kernel, rfl, by decide +kernel, by decide +kernel⟩
theorem ok_law {f : Addr} {fd : FuncData} {a_BadNumber : Addr} {a_BadWord : Addr} (F : Fun K "law" "law" s_law f fd) (B : Bl mg) (c_many : Cal P w K mg base 3 "many" ["word"] (sp_many a_BadWord)) (c_of_length : Cal P w K mg base 3 "of_length" ["word", "size"] (sp_oflen a_BadWord a_BadNumber)) (c_law_cell_at : Cal P w K mg base 1 "_law_cell_at" ["_law_script", "_law_k"] (sp_cell K)) (c_law_draw : Cal P w K mg base 1 "_law_draw" ["_law_cell", "_law_k", "_law_most"] (sp_draw)) (c_law_word : Cal P w K mg base 3 "_law_word" ["_law_script", "_law_by"] (sp_word K)) (c_law_whole : Cal P w K mg base 1 "_law_whole" ["_law_number_here"] (sp_whole)) (c_law_pieces : Cal P w K mg base 1 "_law_pieces" ["_law_word_here"] (sp_pieces)) :
    FnOk P w K mg base (L2.CX P w) 4 f fd ["_law_script"] (sp_law K) := by
  refine F.okX sc_law (fun vs H Q E h => ?_) (fun cdv A outer s H vs Q E hr h => ?_)
  · obtain ⟨a, ns, rfl, hS, hn, hl, k⟩ := h
    first | rfl | (rw [List.length_cons, hl]; rfl)
  · obtain ⟨a, ns, rfl, hS, hn, hl, k⟩ := h
    refine ⟨_, (pss_cons (ps_for (passes_of rfl) rfl (pi_tup (pe_tup (pa_cons (pe_cal c_law_word (hr.mono (by decide)) (by rfl) (passes_call (takes_of rfl rfl rfl rfl) (fun _ _ _ _ h => h)) (pa_cons (pv 0) (pa_cons pe_int pa_nil))) (pa_cons (pe_cal c_law_word (hr.mono (by decide)) (by rfl) (passes_call (takes_of rfl rfl rfl rfl) (fun _ _ _ _ h => h)) (pa_cons (pe_slice sl_list (pe_revL (pv 0)) po_none (po_some pe_int)) (pa_cons pe_int pa_nil))) (pa_cons (pe_cal c_law_word (hr.mono (by decide)) (by rfl) (passes_call (takes_of rfl rfl rfl rfl) (fun _ _ _ _ h => h)) (pa_cons (pe_slice sl_list (pv 0) po_none (po_some pe_int)) (pa_cons pe_int pa_nil))) pa_nil))))) (pg_name (i := 1) sc_law.nd rfl (.inr rfl))
      (pss_cons (ps_set (i := 2) sc_law.nd rfl (.inl rfl) (pe_cal c_law_pieces (hr.mono (by decide)) (by rfl) (passes_call (takes_of rfl rfl rfl rfl) (fun _ _ _ _ h => h)) (pa_cons (pv 1) pa_nil)))
      (pss_cons (ps_set (i := 3) sc_law.nd rfl (.inl rfl) (pe_cal c_many (hr.mono (by decide)) (by rfl) (passes_call (takes_of rfl rfl rfl rfl) (fun _ _ _ _ h => h)) (pa_cons (pv 1) pa_nil)))
      (pss_cons (ps_if (PW.pt (pw_or (pt_not (pt_val (pe_cal c_law_whole (hr.mono (by decide)) (by rfl) (passes_call (takes_of rfl rfl rfl rfl) (fun _ _ _ _ h => h)) (pa_cons (pv 3) pa_nil)))) (pw_or1 (pt_cmpR op_ne (pv 3) (pe_callB call_len_seq (by rfl) B.len PySem.boot_len (pa_cons (pv 2) pa_nil)) (nomark _))))) (pss_one (ps_ret pe_bl)) pss_nil)
      (pss_cons (ps_set (i := 4) sc_law.nd rfl (.inl rfl) (pe_op op_rep (pe_lst (pa_cons pe_int pa_nil)) (pe_op op_add (pe_callB call_len_str (by rfl) B.len PySem.boot_len (pa_cons (pv 1) pa_nil)) pe_int)))
      (pss_cons (ps_for (passes_of rfl) rfl (pi_list (pv 2)) (pg_name (i := 5) sc_law.nd rfl (.inl rfl))
      (pss_one (ps_augS (pv 4) (pe_callB call_len_str (by rfl) B.len PySem.boot_len (pa_cons (pv 5) pa_nil)) get_list pe_int ip_add set_list)))
      (pss_cons (ps_set (i := 6) sc_law.nd rfl (.inl rfl) (pe_listRg rfl (by rfl) B.list_ (prg_1 (by rfl) B.range (pe_op op_add (pe_callB call_len_str (by rfl) B.len PySem.boot_len (pa_cons (pv 1) pa_nil)) pe_int))))
      (Evl.pss_cut (ps_if (pt_cmpR op_gt (pe_callB call_len_str (by rfl) B.len PySem.boot_len (pa_cons (pv 1) pa_nil)) pe_int (nomark _)) (pss_cons (ps_set (i := 6) sc_law.nd rfl (.inl rfl) (pe_lst (pa_cons pe_int (pa_cons pe_int (pa_cons pe_int (pa_cons (pe_callB call_len_str (by rfl) B.len PySem.boot_len (pa_cons (pv 1) pa_nil)) (pa_cons (pe_op op_add (pe_callB call_len_str (by rfl) B.len PySem.boot_len (pa_cons (pv 1) pa_nil)) pe_int) pa_nil)))))))
      (pss_one (ps_set (i := 6) sc_law.nd rfl (.inl rfl) (pe_op op_cat (pv 6) (pe_lc (own := [("_law_k", 7)]) (g := (gName 7)) rfl sc_law.nd (pi_range1 rfl B.range (pa_cons pe_int pa_nil)) (blkOk_by (N := nm_law) (sc := defScope s_law) (by decide +kernel)) (fun _ _ _ _ _ => by exact (pg_name (i := 7) sc_law.nd rfl (.inl rfl))) (fun _ _ _ _ _ => by exact pts_nil) (fun _ _ _ _ _ => by exact (pe_cal c_law_draw (hr.mono (by decide)) (by rfl) passL (pa_cons (pe_cal c_law_cell_at (hr.mono (by decide)) (by rfl) passL (pa_cons (pv 0) (pa_cons (pv 7) pa_nil))) (pa_cons (pe_op op_add (pv 7) pe_int) (pa_cons (pe_callB call_len_str (by rfl) B.len PySem.boot_len (pa_cons (pv 1) pa_nil)) pa_nil)))))))))) pss_nil)
      (pss_one (ps_for (passes_of rfl) rfl (pi_list (pv 6)) (pg_name (i := 8) sc_law.nd rfl (.inl rfl))
      (pss_cons (ps_set (i := 9) sc_law.nd rfl (.inl rfl) (pe_cal c_of_length (hr.mono (by decide)) (by rfl) (passes_call (takes_of rfl rfl rfl rfl) (fun _ _ _ _ h => h)) (pa_cons (pv 1) (pa_cons (pv 8) pa_nil))))
      (pss_one (ps_if (PW.pt (pw_or (pt_not (pt_val (pe_cal c_law_whole (hr.mono (by decide)) (by rfl) (passes_call (takes_of rfl rfl rfl rfl) (fun _ _ _ _ h => h)) (pa_cons (pv 9) pa_nil)))) (pw_or1 (pt_cmpR op_ne (pv 9) (pe_ix ix_list (pv 4) (pv 8) (fun _ _ => rfl)) (nomark _))))) (pss_one (ps_ret pe_bl)) pss_nil)))))))))))))
      (pss_cons (ps_set (i := 1) sc_law.nd rfl (.inr rfl) (pe_op op_add_str (pe_op op_mul_str pe_str pe_int) (pe_op op_mul_str pe_str pe_int)))
      (pss_cons (ps_if (pt_cmpR (op_neD hr.units) (pe_lst (pa_cons (pe_cal c_many (hr.mono (by decide)) (by rfl) (passes_call (takes_of rfl rfl rfl rfl) (fun _ _ _ _ h => h)) (pa_cons (pv 1) pa_nil)) (pa_cons (pe_cal c_many (hr.mono (by decide)) (by rfl) (passes_call (takes_of rfl rfl rfl rfl) (fun _ _ _ _ h => h)) (pa_cons (pe_op op_mul_str pe_str pe_int) pa_nil)) pa_nil))) (pe_lst (pa_cons pe_int (pa_cons pe_int pa_nil))) (nomark _)) (pss_one (ps_ret pe_bl)) pss_nil)
      (pss_cons (ps_if (pt_cmpR (op_neD hr.units) (pe_lc (own := [("_law_size", 8)]) (g := (gName 8)) rfl sc_law.nd (pi_tup (pe_tup (pa_cons pe_int (pa_cons pe_int (pa_cons pe_int (pa_cons pe_int pa_nil)))))) (blkOk_by (N := nm_law) (sc := defScope s_law) (by decide +kernel)) (fun _ _ _ _ _ => by exact (pg_name (i := 8) sc_law.nd rfl (.inl rfl))) (fun _ _ _ _ _ => by exact pts_nil) (fun _ _ _ _ _ => by exact (pe_cal c_of_length (hr.mono (by decide)) (by rfl) passL (pa_cons (pv 1) (pa_cons (pv 8) pa_nil))))) (pe_lst (pa_cons pe_int (pa_cons pe_int (pa_cons pe_int (pa_cons pe_int pa_nil))))) (nomark _)) (pss_one (ps_ret pe_bl)) pss_nil)
      (pss_one (ps_ret (pe_and (pe_cmpR op_eq (pe_cal c_many (hr.mono (by decide)) (by rfl) (passes_call (takes_of rfl rfl rfl rfl) (fun _ _ _ _ h => h)) (pa_cons pe_str pa_nil)) pe_int (nomark _)) (pe_and (pe_cmpR op_eq (pe_cal c_of_length (hr.mono (by decide)) (by rfl) (passes_call (takes_of rfl rfl rfl rfl) (fun _ _ _ _ h => h)) (pa_cons pe_str (pa_cons pe_int pa_nil))) pe_int (nomark _)) (pe_one (pe_cmpR op_eq (pe_cal c_of_length (hr.mono (by decide)) (by rfl) (passes_call (takes_of rfl rfl rfl rfl) (fun _ _ _ _ h => h)) (pa_cons pe_str (pa_cons (pe_op op_pow pe_int pe_int) pa_nil))) pe_int (nomark _))))))))))), ?_⟩
    have wd : ∀ (c : Int) (w : List Nat), w.length ≤ 100 → (∀ x ∈ w, x ∈ lettersF c) → Wd w := fun c w h1 h2 => ⟨h1, fun x hx => letters_az c x (h2 x hx)⟩
    have spw : ∀ (p : Addr) (ms : List Int) (b : Nat) (H1 : Hp), SqL K H1 p (ms.map V.int) → ms.length ≤ 63 → (∀ z ∈ ms, Lim 1048577 z) → b ≤ 100 → SpQ (sp_word K) [.ref p, .int (b : Int)] H1 (fun v => ∃ w, v = vS w ∧ Wd w) := fun p ms b H1 hp h1 h2 h3 H2 e2 Q q E =>
      ⟨p, ms, b, rfl, ex_l e2 hp, h2, h1, h3, fun w hw hc H3 e3 => q _ H3 ⟨w, rfl, wd _ w hw hc⟩ e3⟩
    obtain ⟨m1, hm1, l1, s1⟩ := cut_ints ns.reverse none (some 20)
    obtain ⟨m2, hm2, l2, s2⟩ := cut_ints ns none (some 7)
    rw [List.length_reverse] at l1
    have sz : ∀ (j : Nat) (H1 : Hp), Ex H H1 → SpV (sp_cell K) [.ref a, .int (j : Int)] H1 (.int (cellAt ns j)) := fun j H1 e1 H2 e2 Q q E => ⟨a, ns, j, rfl, ex_l (e1.trans e2) hS, q⟩
    have dr : ∀ (j i : Nat) (m : Int) (H1 : Hp), i ≤ 1000 → 0 < m → SpV sp_draw [.int (cellAt ns j), .int (i : Int), .int m] H1 (.int (drawF (cellAt ns j) i m)) := fun j i m H1 hi hm H2 e2 Q q E => ⟨_, i, _, rfl, (cell_lim hl).mono (by decide), by omega, hm, q⟩
    have wds : ∀ l : List Nat, (l.length ≤ 100 ∧ l.all (fun c => azs.contains c) = true) → Wd l := fun l h => ⟨h.1, fun c hc => List.contains_iff_mem.mp (List.all_eq_true.mp h.2 c hc)⟩
    refine q_forTG (K := K) (P := fun v _ => ∃ w, v = vS w ∧ Wd w) (EvAG.imp (eag_cons (stay_const (p := fun v => ∃ w, v = vS w ∧ Wd w)) (EvQ.toG (eq_call (ea_cons (ev_var rfl) (ea_cons ev_c ea_nil)) (spw a ns 0 H hS hn hl (by decide))))
      (eag_cons (stay_const (p := fun v => ∃ w, v = vS w ∧ Wd w)) (EvQ.toG (eq_callL1 (el_slN (K := K) (el_rev (K := K) (ev_var rfl) hS) eo_none (eo_some ev_c)) (ea_cons ev_c ea_nil) (fun p H1 hp e1 => spw p m1 3 H1 (sq_of (by rw [hp, ← List.map_reverse, hm1])) (by omega) (fun z hz => hl z (List.mem_reverse.mp (s1 z hz))) (by decide))))
      (eag_cons (stay_const (p := fun v => ∃ w, v = vS w ∧ Wd w)) (EvQ.toG (eq_callL1 (el_sl (K := K) (ev_var rfl) eo_none (eo_some ev_c) hS) (ea_cons ev_c ea_nil) (fun p H1 hp e1 => spw p m2 4 H1 (sq_of (by rw [hp, hm2])) (by omega) (fun z hz => hl z (s2 z hz)) (by decide)))) eag_nil))) (fun vs G hv => ?_)) stay_const (fun σ' => ∃ y1 y2 y3 y4 y5 y6 y8 y9, σ' = [some (.ref a), y1, y2, y3, y4, y5, y6, none, y8, y9]) ⟨_, _, _, _, _, _, _, _, rfl⟩ ?_ ?_
    · obtain ⟨v1, _, rfl, h1, v2, _, rfl, h2, v3, _, rfl, h3, rfl⟩ := hv
      refine ⟨by simp, fun x hx => ?_⟩
      simp only [List.mem_cons, List.not_mem_nil, or_false] at hx
      rcases hx with rfl | rfl | rfl
      · exact h1
      · exact h2
      · exact h3
    · rintro G _ _ H1 eG e1 ⟨W, rfl, hW⟩ ⟨y1, y2, y3, y4, y5, y6, y8, y9, rfl⟩
      have hWl := hW.1
      have x1 : Ex H H1 := eG.trans e1
      refine q_asgL (xs := (piecesF W).map vS) (el_call (ea_cons (ev_var rfl) ea_nil) (spl_pieces hWl)) fun pe H2 hpe e2 h2 => ?_
      have plen := pieces_few hWl
      refine q_asg (v := .int ((piecesF W).length : Nat)) (ev_call (ea_cons (ev_var rfl) ea_nil) (spv_many hW)) fun H3 e3 => ?_
      refine q_when (b := false) (et_is (et_or (et_not (et_B (ev_call (ea_cons (ev_var rfl) ea_nil) spv_whole))) fun _ => et_test (ev_op (ev_var rfl) (ev_len (K := K) (ev_var rfl) (sq_of (e3 _ _ h2))) rv_neI)) (by simp)) (fun h => nomatch h) (fun _ H4 e4 => ?_)
      refine q_asgL (xs := cntV (W.length + 4) []) (by
        rw [cntV_nil]
        exact el_rep (el_lst (ea_cons ev_c ea_nil) (by simp)) (ev_is (ev_op (ev_lenS (l := W) (ev_var rfl) (by omega)) ev_c rv_I0) (by congr 1)) (by simp; omega) (by omega)) fun pc H5 hpc e5 h5 => ?_
      have y24 : Ex H2 H4 := e3.trans e4
      have h2' : H5 pe = some (.lst ((piecesF W).map vS)) := (y24.trans e5) _ _ h2
      refine q_forLn (K := K) (j := 5) (xs := (piecesF W).map vS) (ev_var rfl) (sq_of h2') (fun i σ' H' => ∃ z5, σ' = [some (.ref a), some (vS W), some (.ref pe), some (.int ((piecesF W).length : Nat)), some (.ref pc), z5, y6, none, y8, y9] ∧ H' pc = some (.lst (cntV (W.length + 4) ((piecesF W).take i))) ∧ Ex H4 H') (fun H6 e6 => ⟨_, rfl, e6 _ _ h5, e5.trans e6⟩) (fun i σ' H' _ hP => ?_) (fun i x σ' H' hx hP => ?_) (fun σ' H' hP => ?_)
      · obtain ⟨_, _, _, hE⟩ := hP
        exact sq_of (hE _ _ (y24 _ _ h2))
      · obtain ⟨z5, rfl, hc, hE⟩ := hP
        rw [List.getElem?_map] at hx
        obtain ⟨t, ht, rfl⟩ : ∃ t, (piecesF W)[i]? = some t ∧ x = vS t := by
          cases q : (piecesF W)[i]? with
          | none => rw [q] at hx; cases hx
          | some t => rw [q] at hx; exact ⟨t, rfl, (Option.some.inj hx).symm⟩
        have htl : t.length ≤ W.length := (pieces_mem.mp (List.mem_of_getElem? ht)).length_le
        refine s_augL (K := K) (a := (cnt ((piecesF W).take i) t.length : Nat)) (b := 1) hc (ev_var rfl) (ev_lenS (l := t) (ev_var rfl) (by omega)) (cntV_get (by omega)) ev_c fun H6 e6 => ⟨_, rfl, ?_, Ex.mut (hE.trans e6) hpc⟩
        rw [take_at ht, cntV_snoc (by omega)]
        exact upd_same
      · obtain ⟨z5, rfl, hc, hE⟩ := hP
        rw [List.take_of_length_le (by rw [List.length_map]; exact Nat.le_refl _)] at hc
        have lw : ∀ (σ : L2.St) (H6 : Hp), σ[1]? = some (some (vS W)) → Ev (tCB rLenStr (tCons (tVar 1) tNil)) σ H6 (.int (W.length : Int)) := fun σ H6 hv => ev_lenS (l := W) (ev_var hv) (by omega)
        refine q_asgL (xs := rgV 0 ((W.length : Int) + 4)) (el_listRg1 (ev_op (lw _ _ rfl) ev_c rv_I0) ⟨by decide, by decide, by omega, by omega, by omega⟩) fun pn H6 hpn e6 h6 => ?_
        refine q_cut (M := fun σ' H' => ∃ p xs, σ' = [some (.ref a), some (vS W), some (.ref pe), some (.int ((piecesF W).length : Nat)), some (.ref pc), z5, some (.ref p), none, y8, y9] ∧ H' p = some (.lst xs) ∧ (∀ x ∈ xs, ∃ n : Nat, x = .int (n : Nat) ∧ n < W.length + 4) ∧ Ex H' H' ∧ Ex H4 H' ∧ H' pc = some (.lst (cntV (W.length + 4) (piecesF W)))) ?_ ?_
        · refine s_when (et_test (ev_op (lw _ _ rfl) ev_c rv_I0)) (fun hb H7 e7 => ?_) (fun hb H7 e7 => ⟨pn, _, rfl, e7 _ _ h6, fun x hx => ?_, Ex.refl _, hE.trans (e6.trans e7), (e6.trans e7) _ _ hc⟩)
          · have hgt : 20 < W.length := by have := of_decide_eq_true hb; omega
            refine q_asgL (xs := [V.int 0, .int 1, .int 2, .int (W.length : Int), .int ((W.length : Int) + 1)]) (el_lst (ea_cons ev_c (ea_cons ev_c (ea_cons ev_c (ea_cons (lw _ _ rfl) (ea_cons (ev_op (lw _ _ rfl) ev_c rv_I0) ea_nil))))) (by simp)) fun p8 H8 hp8 e8 h8 => ?_
            have x8 := (e6.trans e7).trans e8
            refine s_asgL (xs := [V.int 0, .int 1, .int 2, .int (W.length : Int), .int ((W.length : Int) + 1)] ++ given (6 : Int).toNat (fun _ => true) (fun i => .int (drawF (cellAt ns i) (i + 1) W.length))) (el_cat (ev_var rfl) h8 (el_lcR (fun _ => true) _ (ea_cons ev_c ea_nil) (by decide) (fun x => rfl) (fun i H9 e9 hi => et_yes) (fun i H9 e9 hi _ => ?_)) (by rw [given_all]; simp)) fun p9 H9 hp9 e9 h9 => ⟨p9, _, rfl, h9, fun x hx => ?_, Ex.refl _, hE.trans (x8.trans e9), (x8.trans e9) _ _ hc⟩
            · refine ev_call (ea_cons (ev_call (ea_cons (ev_var rfl) (ea_cons (ev_var rfl) ea_nil)) (sz i H9 ((((x1.trans e2).trans y24).trans hE).trans (x8.trans e9)))) (ea_cons (ev_op (ev_var rfl) ev_c rv_I0) (ea_cons (lw _ _ rfl) ea_nil))) ?_
              show SpV sp_draw [_, .int ((i : Int) + ((1 : Nat) : Int)), _] _ _
              rw [show (i : Int) + ((1 : Nat) : Int) = ((i + 1 : Nat) : Int) by omega]
              exact dr i (i + 1) _ H9 (by omega) (by omega)
            · rcases List.mem_append.mp hx with hx | hx
              · simp only [List.mem_cons, List.not_mem_nil, or_false] at hx
                rcases hx with rfl | rfl | rfl | rfl | rfl
                · exact ⟨0, rfl, by omega⟩
                · exact ⟨1, rfl, by omega⟩
                · exact ⟨2, rfl, by omega⟩
                · exact ⟨W.length, rfl, by omega⟩
                · exact ⟨W.length + 1, by congr 1, by omega⟩
              · rw [given_all] at hx
                obtain ⟨i, _, rfl⟩ := List.mem_map.mp hx
                have hd := draw_lt (c := cellAt ns i) (k := i + 1) (m := (W.length : Int)) (by omega)
                exact ⟨(drawF (cellAt ns i) (i + 1) W.length).toNat, by rw [Int.toNat_of_nonneg hd.1], by omega⟩
          · unfold rgV at hx
            obtain ⟨i, hi, rfl⟩ := List.mem_map.mp hx
            rw [List.mem_range] at hi
            exact ⟨i, by rw [Int.zero_add], by omega⟩
        · rintro _ H7 ⟨p, xs, rfl, h7, hx, _, x7, hc7⟩
          refine s_forLV (K := K) (P := fun v _ => ∃ n : Nat, v = .int (n : Nat) ∧ n < W.length + 4) (ev_var rfl) h7 hx stay_const (fun σ' => ∃ z8 z9, σ' = [some (.ref a), some (vS W), some (.ref pe), some (.int ((piecesF W).length : Nat)), some (.ref pc), z5, some (.ref p), none, z8, z9]) ⟨_, _, rfl⟩ ?_ ?_
          · rintro G2 _ _ H8 eG2 e8 ⟨n, rfl, hnl⟩ ⟨z8, z9, rfl⟩
            refine q_asg (v := .int (ofLen W n : Nat)) (ev_call (ea_cons (ev_var rfl) (ea_cons (ev_var rfl) ea_nil)) (spv_oflen hW)) fun H9 e9 => ?_
            have hat : atI (cntV (W.length + 4) (piecesF W)) (n : Int) = some (.int (ofLen W n : Nat)) := atI_nat (cntV_get hnl)
            have hc9 := ((eG2.trans e8).trans e9) _ _ hc7
            exact s_when (b := false) (et_is (et_or (et_not (et_B (ev_call (ea_cons (ev_var rfl) ea_nil) spv_whole))) fun _ => et_test (ev_op (ev_var rfl) (ev_op (ev_var rfl) (ev_var rfl) (rv_ixL (K := K) (sq_of hc9) hat)) rv_neI)) (by simp)) (fun h => nomatch h) (fun _ H10 e10 => ⟨⟨_, _, rfl⟩, (e8.trans e9).trans e10⟩)
          · rintro _ H8 ⟨z8, z9, rfl⟩ e8
            exact ⟨⟨_, _, _, _, _, _, _, _, rfl⟩, (((e1.trans e2).trans y24).trans x7).trans e8⟩
    · rintro _ H1 ⟨y1, y2, y3, y4, y5, y6, y8, y9, rfl⟩ e1
      have aa : ∀ (n c : Nat) (z : Str) (H1 : Hp), z = S [c] → n ≤ 1000 → RV rMulS (.str z) (.int (n : Int)) H1 (vS (List.replicate n c)) := fun n c z H1 hz hn => by
        have e : (List.replicate n [c]).flatten = List.replicate n c := by
          clear hn
          induction n with
          | zero => rfl
          | succ n ih => rw [List.replicate_succ, List.replicate_succ, List.flatten_cons, ih]; rfl
        rw [← e, hz]
        exact rv_mulS (by simp; omega) (by omega)
      have w0 : Wd (List.replicate 50 97 ++ List.replicate 50 98) := wds _ (by decide +kernel)
      have w1 : Wd (List.replicate 50 [97, 98]).flatten := wds _ (by decide +kernel)
      have wn : Wd [98, 97, 110, 97, 110, 97] := wds _ (by decide)
      have we : Wd [] := wds _ (by decide)
      refine q_asg (v := vS (List.replicate 50 97 ++ List.replicate 50 98)) (ev_op (ev_op ev_c ev_c (aa 50 97 _ H1 (by decide) (by decide))) (ev_op ev_c ev_c (aa 50 98 _ H1 (by decide) (by decide))) (rv_addS (by simp))) fun H2 e2 => ?_
      have c0 : (piecesF (List.replicate 50 97 ++ List.replicate 50 98)).length = 2601 := by decide +kernel
      have c1 : (piecesF (List.replicate 50 [97, 98]).flatten).length = 200 := by decide +kernel
      refine q_when (b := false) (et_is (et_test (ev_opLL (el_lst (vs := [((piecesF (List.replicate 50 97 ++ List.replicate 50 98)).length : Int), ((piecesF (List.replicate 50 [97, 98]).flatten).length : Int)].map V.int) (ea_cons (ev_call (ea_cons (ev_var rfl) ea_nil) (spv_many w0)) (ea_cons (ev_call (ea_cons (ev_op ev_c ev_c (rv_mulS (l := [97, 98]) (n := 50) (by decide) (by decide))) ea_nil) (spv_many w1)) ea_nil)) (by simp)) (el_lst (vs := [2601, 200].map V.int) (ea_cons ev_c (ea_cons ev_c ea_nil)) (by simp)) (fun p q H4 hp hq e4 => rv_neLI (K := K) (sq_of hp) (sq_of hq)))) (by rw [c0, c1]; decide)) (fun h => nomatch h) (fun _ H4 e4 => ?_)
      have o1 : ofLen (List.replicate 50 97 ++ List.replicate 50 98) 50 = 51 := by decide +kernel
      have o2 : ofLen (List.replicate 50 97 ++ List.replicate 50 98) 51 = 50 := by decide +kernel
      have o3 : ofLen (List.replicate 50 97 ++ List.replicate 50 98) 100 = 1 := by decide +kernel
      have o4 : ofLen (List.replicate 50 97 ++ List.replicate 50 98) 101 = 0 := by decide +kernel
      have hv : [(51 : Int), 50, 1, 0].map V.int = given [V.int 50, .int 51, .int 100, .int 101].length (fun _ => true) (fun i => V.int ([(51 : Int), 50, 1, 0].getD i 0)) := by decide
      refine q_when (b := false) (et_is (et_test (ev_opLL (xs := [(51 : Int), 50, 1, 0].map V.int) (hv ▸ el_lcU (K := K) (xs := [V.int 50, .int 51, .int 100, .int 101]) (fun _ => true) _ (eu_tup (ea_cons ev_c (ea_cons ev_c (ea_cons ev_c (ea_cons ev_c ea_nil)))) (by simp)) (by simp) (fun x => rfl) (fun i x H5 e5 hx => et_yes) (fun i x H5 e5 hx _ => ?_)) (el_lst (vs := [51, 50, 1, 0].map V.int) (ea_cons ev_c (ea_cons ev_c (ea_cons ev_c (ea_cons ev_c ea_nil)))) (by simp)) (fun p q H5 hp hq e5 => rv_neLI (K := K) (sq_of hp) (sq_of hq)))) (by decide)) (fun h => nomatch h) (fun _ H5 e5 => ?_)
      · match i, hx with
        | 0, hx => cases hx; exact ev_is (ev_call (ea_cons (ev_var rfl) (ea_cons (ev_var rfl) ea_nil)) (spv_oflen (n := 50) w0)) (by rw [o1]; rfl)
        | 1, hx => cases hx; exact ev_is (ev_call (ea_cons (ev_var rfl) (ea_cons (ev_var rfl) ea_nil)) (spv_oflen (n := 51) w0)) (by rw [o2]; rfl)
        | 2, hx => cases hx; exact ev_is (ev_call (ea_cons (ev_var rfl) (ea_cons (ev_var rfl) ea_nil)) (spv_oflen (n := 100) w0)) (by rw [o3]; rfl)
        | 3, hx => cases hx; exact ev_is (ev_call (ea_cons (ev_var rfl) (ea_cons (ev_var rfl) ea_nil)) (spv_oflen (n := 101) w0)) (by rw [o4]; rfl)
      · have c2 : (piecesF [98, 97, 110, 97, 110, 97]).length = 16 := by decide +kernel
        have o5 : ofLen [98, 97, 110, 97, 110, 97] 3 = 3 := by decide +kernel
        have o6 : ofLen [] (10 ^ 30) = 0 := by decide +kernel
        refine s_ret (v := .bl true) (ev_is (ev_andV (ev_op (ev_call (ea_cons ev_c ea_nil) (spv_many (w := [98, 97, 110, 97, 110, 97]) wn)) ev_c rv_eqI) fun _ => ev_andV (ev_op (ev_call (ea_cons ev_c (ea_cons ev_c ea_nil)) (spv_oflen (w := [98, 97, 110, 97, 110, 97]) (n := 3) wn)) ev_c rv_eqI) fun _ => ev_op (ev_call (ea_cons ev_c (ea_cons (ev_is (ev_op ev_c ev_c (rv_I ⟨by decide, by decide, by decide⟩)) (w := .int ((10 ^ 30 : Nat) : Int)) (by decide)) ea_nil)) (spv_oflen (w := []) (n := 10 ^ 30) we)) ev_c rv_eqI) (by rw [c2, o5, o6]; decide)) fun H6 e6 => k H6

theorem all_mk {fa : Addr} {a_BadNumber : Addr} {a_BadWord : Addr} (hfa : mg "law" = some (.ref fa)) (B : Bl mg) (d_is_text : Dn K mg "is_text" s_is_text) (d_is_number : Dn K mg "is_number" s_is_number) (d_ends_in_order : Dn K mg "ends_in_order" s_ends_in_order) (d_law_cell_at : Dn K mg "_law_cell_at" s_law_cell_at) (d_law_draw : Dn K mg "_law_draw" s_law_draw) (d_law_whole : Dn K mg "_law_whole" s_law_whole) (d_law_pieces : Dn K mg "_law_pieces" s_law_pieces) (d_check_word : Dn K mg "check_word" s_check_word) (d_law_number : Dn K mg "_law_number" s_law_number) (d_law_letters : Dn K mg "_law_letters" s_law_letters) (d_many : Dn K mg "many" s_many) (d_of_length : Dn K mg "of_length" s_of_length) (d_law_word : Dn K mg "_law_word" s_law_word) (d_law : Dn K mg "law" s_law) (g_LETTERS : ∃ u, mg "LETTERS" = some u ∧ RelV (.str (S azs)) u) (g_MOST : ∃ u, mg "MOST" = some u ∧ RelV (.int 100) u) (e_BadNumber : Er K mg "BadNumber" (a_BadNumber) bmE) (e_BadWord : Er K mg "BadWord" (a_BadWord) bmE) :
    ∃ fd : FuncData, (∀ (s : Shared) (u : Value), BindsTo s fd ⟨[u], []⟩ [("_law_script", u)]) ∧ ∀ base : Heap, FnOk P w K mg base (L2.CX P w) 4 fa fd ["_law_script"] (sp_law K) := by
  obtain ⟨f, fd, g, F⟩ := d_law.ex
  have e := hfa.symm.trans g
  cases e
  obtain ⟨oc, od, kV, doc, pm, an, cdv, ct, osl, rfl, lk, hcd⟩ := F.ex
  refine ⟨PySem.W.fnOf "law" "law" (defArgs s_law) (defBody s_law) (defScope s_law) .none kV doc pm an cdv ct, fun s v => .of_eq rfl, fun base => ?_⟩
  have c_is_text : Cal P w K mg base 1 "is_text" ["thing"] (sp_is_text) := cal_mk d_is_text (fun f fd F => ok_is_text F B g_LETTERS g_MOST) (fun _ _ _ _ _ _ us hl => match us, hl with | [_], _ => rfl)
  have c_is_number : Cal P w K mg base 1 "is_number" ["thing"] (sp_is_number) := cal_mk d_is_number (fun f fd F => ok_is_number F B) (fun _ _ _ _ _ _ us hl => match us, hl with | [_], _ => rfl)
  have c_ends_in_order : Cal P w K mg base 1 "ends_in_order" ["word"] (sp_ends) := cal_mk d_ends_in_order (fun f fd F => ok_ends_in_order F B) (fun _ _ _ _ _ _ us hl => match us, hl with | [_], _ => rfl)
  have c_law_cell_at : Cal P w K mg base 1 "_law_cell_at" ["_law_script", "_law_k"] (sp_cell K) := cal_mk d_law_cell_at (fun f fd F => ok_law_cell_at F B) (fun _ _ _ _ _ _ us hl => match us, hl with | [_, _], _ => rfl)
  have c_law_draw : Cal P w K mg base 1 "_law_draw" ["_law_cell", "_law_k", "_law_most"] (sp_draw) := cal_mk d_law_draw (fun f fd F => ok_law_draw F B) (fun _ _ _ _ _ _ us hl => match us, hl with | [_, _, _], _ => rfl)
  have c_law_whole : Cal P w K mg base 1 "_law_whole" ["_law_number_here"] (sp_whole) := cal_mk d_law_whole (fun f fd F => ok_law_whole F B) (fun _ _ _ _ _ _ us hl => match us, hl with | [_], _ => rfl)
  have c_law_pieces : Cal P w K mg base 1 "_law_pieces" ["_law_word_here"] (sp_pieces) := cal_mk d_law_pieces (fun f fd F => ok_law_pieces F B) (fun _ _ _ _ _ _ us hl => match us, hl with | [_], _ => rfl)
  have c_check_word : Cal P w K mg base 2 "check_word" ["word"] (sp_check a_BadWord) := cal_mk d_check_word (fun f fd F => ok_check_word F B c_is_text e_BadWord) (fun _ _ _ _ _ _ us hl => match us, hl with | [_], _ => rfl)
  have c_law_number : Cal P w K mg base 2 "_law_number" ["_law_cell", "_law_k", "_law_limit"] (sp_number) := cal_mk d_law_number (fun f fd F => ok_law_number F B c_law_draw) (fun _ _ _ _ _ _ us hl => match us, hl with | [_, _, _], _ => rfl)
  have c_law_letters : Cal P w K mg base 2 "_law_letters" ["_law_script", "_law_by"] (sp_letters K) := cal_mk d_law_letters (fun f fd F => ok_law_letters F B c_law_cell_at c_law_draw) (fun _ _ _ _ _ _ us hl => match us, hl with | [_, _], _ => rfl)
  have c_many : Cal P w K mg base 3 "many" ["word"] (sp_many a_BadWord) := cal_mk d_many (fun f fd F => ok_many F B c_check_word c_ends_in_order) (fun _ _ _ _ _ _ us hl => match us, hl with | [_], _ => rfl)
  have c_of_length : Cal P w K mg base 3 "of_length" ["word", "size"] (sp_oflen a_BadWord a_BadNumber) := cal_mk d_of_length (fun f fd F => ok_of_length F B c_check_word c_is_number c_ends_in_order e_BadNumber) (fun _ _ _ _ _ _ us hl => match us, hl with | [_, _], _ => rfl)
  have c_law_word : Cal P w K mg base 3 "_law_word" ["_law_script", "_law_by"] (sp_word K) := cal_mk d_law_word (fun f fd F => ok_law_word F B c_law_cell_at c_law_draw c_law_number c_law_letters) (fun _ _ _ _ _ _ us hl => match us, hl with | [_, _], _ => rfl)
  exact ok_law F B c_many c_of_length c_law_cell_at c_law_draw c_law_word c_law_whole c_law_pieces
end
end WP
open PySem PySem.W PyProof.Rows
set_option maxHeartbeats 0 in
theorem PySem.Challenge.cw_wordpieces_k02_whole_counted_holds : PySem.Challenge.rw_wordpieces_k02_whole_counted.Holds := by
  w_on; o_law; k_head; (case hw => w_witness2)
  k_fill
  refine L2.walk_ofB (l := PySem.Challenge.rw_wordpieces_k02_whole_counted) (n := 63) (k := 4) (x := "_law_script") (CX := fun w => L2.CX PySem.Challenge.rw_wordpieces_k02_whole_counted.prog w) (sp := fun w => WP.sp_law _) rfl (by decide) rfl ⟨rfl, by decide, by decide⟩ (fun w h Y => PySem.W.kIn_of Y) ?F (fun _ _ a ns hl hb _ hS => ⟨a, ns, rfl, hS, hl, fun z hz => WP.Lim.of_bits (hb z hz), fun _ => rfl⟩) (fun _ _ _ _ _ h => WP.cx_no h)
  case F =>
    intro w mg fa h KX G hmg
    have B : WP.Bl mg := by
      constructor <;> (refine PySem.W.mg_none_of KX G ?_; k_is)
    have d_is_text : WP.Dn (WP.KOf KX) mg "is_text" WP.s_is_text := by
      dsimp only [WP.KOf]
      refine' WP.dn_mk KX G ?a ?l ?c ?k
      (case a => k_is); (case l => k_is); (case c => k_is); (case k => k_is)
    have d_is_number : WP.Dn (WP.KOf KX) mg "is_number" WP.s_is_number := by
      dsimp only [WP.KOf]
      refine' WP.dn_mk KX G ?a ?l ?c ?k
      (case a => k_is); (case l => k_is); (case c => k_is); (case k => k_is)
    have d_ends_in_order : WP.Dn (WP.KOf KX) mg "ends_in_order" WP.s_ends_in_order := by
      dsimp only [WP.KOf]
      refine' WP.dn_mk KX G ?a ?l ?c ?k
      (case a => k_is); (case l => k_is); (case c => k_is); (case k => k_is)
    have d_law_cell_at : WP.Dn (WP.KOf KX) mg "_law_cell_at" WP.s_law_cell_at := by
      dsimp only [WP.KOf]
      refine' WP.dn_mk KX G ?a ?l ?c ?k
      (case a => k_is); (case l => k_is); (case c => k_is); (case k => k_is)
    have d_law_draw : WP.Dn (WP.KOf KX) mg "_law_draw" WP.s_law_draw := by
      dsimp only [WP.KOf]
      refine' WP.dn_mk KX G ?a ?l ?c ?k
      (case a => k_is); (case l => k_is); (case c => k_is); (case k => k_is)
    have d_law_whole : WP.Dn (WP.KOf KX) mg "_law_whole" WP.s_law_whole := by
      dsimp only [WP.KOf]
      refine' WP.dn_mk KX G ?a ?l ?c ?k
      (case a => k_is); (case l => k_is); (case c => k_is); (case k => k_is)
    have d_law_pieces : WP.Dn (WP.KOf KX) mg "_law_pieces" WP.s_law_pieces := by
      dsimp only [WP.KOf]
      refine' WP.dn_mk KX G ?a ?l ?c ?k
      (case a => k_is); (case l => k_is); (case c => k_is); (case k => k_is)
    have d_check_word : WP.Dn (WP.KOf KX) mg "check_word" WP.s_check_word := by
      dsimp only [WP.KOf]
      refine' WP.dn_mk KX G ?a ?l ?c ?k
      (case a => k_is); (case l => k_is); (case c => k_is); (case k => k_is)
    have d_law_number : WP.Dn (WP.KOf KX) mg "_law_number" WP.s_law_number := by
      dsimp only [WP.KOf]
      refine' WP.dn_mk KX G ?a ?l ?c ?k
      (case a => k_is); (case l => k_is); (case c => k_is); (case k => k_is)
    have d_law_letters : WP.Dn (WP.KOf KX) mg "_law_letters" WP.s_law_letters := by
      dsimp only [WP.KOf]
      refine' WP.dn_mk KX G ?a ?l ?c ?k
      (case a => k_is); (case l => k_is); (case c => k_is); (case k => k_is)
    have d_many : WP.Dn (WP.KOf KX) mg "many" WP.s_many := by
      dsimp only [WP.KOf]
      refine' WP.dn_mk KX G ?a ?l ?c ?k
      (case a => k_is); (case l => k_is); (case c => k_is); (case k => k_is)
    have d_of_length : WP.Dn (WP.KOf KX) mg "of_length" WP.s_of_length := by
      dsimp only [WP.KOf]
      refine' WP.dn_mk KX G ?a ?l ?c ?k
      (case a => k_is); (case l => k_is); (case c => k_is); (case k => k_is)
    have d_law_word : WP.Dn (WP.KOf KX) mg "_law_word" WP.s_law_word := by
      dsimp only [WP.KOf]
      refine' WP.dn_mk KX G ?a ?l ?c ?k
      (case a => k_is); (case l => k_is); (case c => k_is); (case k => k_is)
    have d_law : WP.Dn (WP.KOf KX) mg "law" WP.s_law := by
      dsimp only [WP.KOf]
      refine' WP.dn_mk KX G ?a ?l ?c ?k
      (case a => k_is); (case l => k_is); (case c => k_is); (case k => k_is)
    have g_LETTERS : ∃ u, mg "LETTERS" = some u ∧ L2.RelV (.str (SX.S WP.azs)) u := by
      refine' WP.gs_mk KX G ?a
      (case a => k_is)
    have g_MOST : ∃ u, mg "MOST" = some u ∧ L2.RelV (.int 100) u := by
      refine' WP.gi_mk KX G ?a
      (case a => k_is)
    obtain ⟨a_BadNumber, e_BadNumber⟩ : ∃ C, WP.Er (WP.KOf KX) mg "BadNumber" C WP.bmE := by
      dsimp only [WP.KOf]
      refine' ⟨_, WP.er_mk KX G ?a ?x ?k ?b ?t⟩
      (case a => k_is); (case x => first | k_exc | k_is); (case k => k_is); (case b => k_is); (case t => k_is)
    obtain ⟨a_BadWord, e_BadWord⟩ : ∃ C, WP.Er (WP.KOf KX) mg "BadWord" C WP.bmE := by
      dsimp only [WP.KOf]
      refine' ⟨_, WP.er_mk KX G ?a ?x ?k ?b ?t⟩
      (case a => k_is); (case x => first | k_exc | k_is); (case k => k_is); (case b => k_is); (case t => k_is)
    obtain ⟨fd, h1, h2⟩ := WP.all_mk (P := PySem.Challenge.rw_wordpieces_k02_whole_counted.prog) (w := w) hmg B d_is_text d_is_number d_ends_in_order d_law_cell_at d_law_draw d_law_whole d_law_pieces d_check_word d_law_number d_law_letters d_many d_of_length d_law_word d_law g_LETTERS g_MOST e_BadNumber e_BadWord
    exact ⟨fd, h1, fun base _ _ => h2 base⟩
