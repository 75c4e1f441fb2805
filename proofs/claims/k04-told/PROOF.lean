import PyProof.Rows.All
import Wide.All
import OpenK.AllK
import Wide.FinOn
import HandS.ForMost
import HandS.ForExc
import HandS.Evl
import HandS.Walk
import HandS.IsInst
import HandS.StrMore
import HandS.EndBits
import HandS.Wide
import HandS.Codes
import HandS.Style
import HandS.Conv
import HandS.Deep
import PySem.Challenge.RW_wordpieces_k04_whole_told
set_option Elab.async false
set_option linter.all false
set_option maxRecDepth 100000
set_option maxHeartbeats 8000000
namespace WP
open PySem PySem.Spec PyProof.Rows L2 Evl
open SX (S S_len S_cat S_inj S_tl)

/-! ### defs of the top that are called -/
/-- the def named x stands in the module and keeps the promise sp -/
structure Cal (P : Program) (w : World) (K : PySem.W.Frag) (mg : Str → Option Value) (base : Heap) (k : Nat) (x : Str) (ps : List Str) (sp : Sp) : Prop where
  ex : ∃ (f : Addr) (fd : FuncData), FnOk P w K mg base (L2.CX P w) k f fd ps sp ∧ mg x = some (.ref f) ∧ PySem.W.keepIn K (.ref f) = true ∧ Binds K fd ps []
theorem pe_cal {X : Cx} {k : Nat} {ps : List Str} {sp : Sp} {E : XK} {x : Str} {p pos : Pos} {e : Expr} {es : List Expr} {t : TA} (C : Cal X.prog X.w X.K X.mg X.base k x ps sp) (hr : Room k X.A) (hg : Gl X x) (hx : Passes (L2.CX X.prog X.w) X E) (ha : PA X (e :: es) t)
    (hdb : (x == ("__debug__" : Str)) = false := by decide) (he : starEach (e :: es) X.env = (false, eval e X.env) :: starEach es X.env := by rfl) (hpl : (backTo pos (starEach es X.env)).any (·.1) = false := by rfl) :
    PE X (.Call (.Name x p) (e :: es) [] pos) (tCall sp [] E t) := by
  obtain ⟨f, fd, F, hm, hk, hb⟩ := C.ex
  exact pe_call F hr hg hm hk hb .nil hx ha hdb he hpl

/-- the built-in names are not hidden -/
structure Bl (mg : Str → Option Value) : Prop where
  len : mg "len" = none
  range : mg "range" = none
  isinstance : mg "isinstance" = none
  str_ : mg "str" = none
  int_ : mg "int" = none
  bool_ : mg "bool" = none
  list_ : mg "list" = none
  all_ : mg "all" = none
  any_ : mg "any" = none
  zip : mg "zip" = none
  sorted : mg "sorted" = none
  sum_ : mg "sum" = none
  set_ : mg "set" = none
  enumerate : mg "enumerate" = none
  tuple_ : mg "tuple" = none
  max_ : mg "max" = none
  min_ : mg "min" = none
  abs_ : mg "abs" = none

/-- an own error class straight under another of them, at C -/
structure Er (K : PySem.W.Frag) (mg : Str → Option Value) (x : Str) (C : Addr) (bm : List Value) : Prop where
  g : mg x = some (.ref C)
  x : PySem.W.excIn K C bm "ValueError.__new__" = true
  k : PySem.W.keepIn K (.ref C) = true
  b : PySem.W.subIn K (.ref C) (.type "BaseException") = some true
  t : PySem.W.typeIn K (.ref C) = some (.type "type")

/-! ### great numbers -/
def CMulV (i j : Int) : Prop := i.natAbs.log2 + j.natAbs.log2 < 100000000
theorem CMulV.ok {i j : Int} (h : CMulV i j) : IntMulOk i j := by
  have b : ∀ x : Int, Builtin.Int.intBits x ≤ x.natAbs.log2 + 1 := fun x => by
    unfold Builtin.Int.intBits
    split <;> omega
  have h1 := b i
  have h2 := b j
  have h3 : i.natAbs.log2 + j.natAbs.log2 < 100000000 := h
  have e : bitsLine = 134217728 := by decide
  unfold IntMulOk
  intro z
  rw [Bool.and_eq_true] at z
  have z2 := z.2
  unfold Builtin.Int.intTooBig at z2
  have z3 := of_decide_eq_true z2
  rw [e] at z3
  omega
theorem op_mulV {X : Cx} : OpR X (binaryOp .Mult) (rI CMulV fun i j => .int (i * j)) := opI fun _ _ _ _ _ _ _ hc q => mul_int q hc.ok
/-- a number of at most n bits -/
def Lim (n : Nat) (i : Int) : Prop := ∃ a : Nat, 0 < a ∧ a ≤ n ∧ i.natAbs < 2 ^ a
theorem Lim.log {n : Nat} {i : Int} (h : Lim n i) : i.natAbs.log2 < n := by
  obtain ⟨a, h0, h1, h2⟩ := h
  exact Nat.lt_of_lt_of_le (PySem.Flt.log2_lt_of h0 h2) h1
theorem Lim.add {n : Nat} {i j : Int} (h : Lim n i) (g : Lim n j) : Lim (n + 1) (i + j) := by
  obtain ⟨a, h0, h1, h2⟩ := h
  obtain ⟨b, g0, g1, g2⟩ := g
  refine ⟨n + 1, by omega, Nat.le_refl _, ?_⟩
  have p1 : 2 ^ a ≤ 2 ^ n := Nat.pow_le_pow_right (by decide) h1
  have p2 : 2 ^ b ≤ 2 ^ n := Nat.pow_le_pow_right (by decide) g1
  rw [Nat.pow_succ]
  have : (i + j).natAbs ≤ i.natAbs + j.natAbs := Int.natAbs_add_le i j
  omega
theorem Lim.mono {n m : Nat} {i : Int} (h : Lim n i) (g : n ≤ m) : Lim m i := by
  obtain ⟨a, h0, h1, h2⟩ := h
  exact ⟨a, h0, by omega, h2⟩
theorem Lim.mul {n m : Nat} {i j : Int} (h : Lim n i) (g : Lim m j) : Lim (n + m) (i * j) := by
  obtain ⟨a, h0, h1, h2⟩ := h
  obtain ⟨b, g0, g1, g2⟩ := g
  exact ⟨a + b, by omega, by omega, wide_lt h2 g2⟩
theorem Lim.small {i : Int} (h1 : -1000000000 ≤ i) (h2 : i ≤ 1000000000) : Lim 30 i := ⟨30, by decide, by decide, by
  have : (2 : Nat) ^ 30 = 1073741824 := by decide
  omega⟩
theorem Lim.mulOk {n m : Nat} {i j : Int} (h : Lim n i) (g : Lim m j) (z : n + m ≤ 100000000) : CMulV i j := by
  have a := h.log
  have b := g.log
  unfold CMulV
  omega
theorem Lim.of_bits {i : Int} (h : Builtin.Int.intBits i ≤ 1048576) : Lim 1048577 i := by
  refine ⟨i.natAbs.log2 + 1, by omega, ?_, Nat.lt_log2_self⟩
  unfold Builtin.Int.intBits at h
  split at h
  · rename_i e
    have z : i.natAbs = 0 := by
      first
        | (have := of_decide_eq_true e; omega)
        | (simp at e; omega)
    rw [z, show Nat.log2 0 = 0 by decide]
    decide
  · omega

/-! ### values of texts -/
theorem rv_str2 {f : Str → Str → V} {C : Str → Str → Prop} {a b : Str} {H : Hp} (hc : C a b) : RV (fun x y H Q => ∃ i j, x = .str i ∧ y = .str j ∧ C i j ∧ Q (f i j) H) (.str a) (.str b) H (f a b) := fun H1 _ _ q => ⟨a, b, rfl, rfl, hc, q H1 (Ex.refl H1)⟩
theorem rv_str2' {f : Str → Str → V} {a b : Str} {H : Hp} : RV (fun x y H Q => ∃ i j, x = .str i ∧ y = .str j ∧ Q (f i j) H) (.str a) (.str b) H (f a b) := fun H1 _ _ q => ⟨a, b, rfl, rfl, q H1 (Ex.refl H1)⟩
/-- s + t -/
theorem rv_addS {a b : List Nat} {H : Hp} (h : a.length + b.length ≤ 1000000) : RV (fun x y H Q => ∃ i j, x = .str i ∧ y = .str j ∧ i.length + j.length ≤ sizeLine ∧ Q (.str (i ++ j)) H) (.str (S a)) (.str (S b)) H (.str (S (a ++ b))) := by
  rw [← S_cat]
  refine rv_str2 (f := fun i j => .str (i ++ j)) (C := fun i j => i.length + j.length ≤ sizeLine) ?_
  rw [S_len, S_len]
  exact Nat.le_trans h (by decide)
theorem dec_S {a b : List Nat} : decide (V.str (S a) = V.str (S b)) = decide (a = b) := by
  rw [Bool.eq_iff_iff]
  simp only [decide_eq_true_eq]
  exact ⟨fun h => S_inj (V.str.inj h), fun h => by rw [h]⟩
theorem rv_eqS {a b : List Nat} {H : Hp} : RV rEq (.str (S a)) (.str (S b)) H (.bl (decide (a = b))) := by
  rw [← dec_S]
  exact rv_eq rfl
theorem rv_neS {a b : List Nat} {H : Hp} : RV rNe (.str (S a)) (.str (S b)) H (.bl (!decide (a = b))) := by
  rw [← dec_S]
  exact rv_ne rfl
theorem dec_I {a b : Int} : decide (V.int a = V.int b) = decide (a = b) := by
  rw [Bool.eq_iff_iff]
  simp only [decide_eq_true_eq]
  exact ⟨fun h => V.int.inj h, fun h => by rw [h]⟩
theorem rv_eqI {a b : Int} {H : Hp} : RV rEq (.int a) (.int b) H (.bl (decide (a = b))) := by
  rw [← dec_I]
  exact rv_eq rfl
theorem rv_neI {a b : Int} {H : Hp} : RV rNe (.int a) (.int b) H (.bl (!decide (a = b))) := by
  rw [← dec_I]
  exact rv_ne rfl
/-- l[lo:hi] -/
def cut (l : List Nat) (lo hi : Option Int) : List Nat := (l.drop (HT.sIx l.length 0 lo)).take (HT.sIx l.length l.length hi - HT.sIx l.length 0 lo)
theorem cutS_S (l : List Nat) (lo hi : Option Int) : cutS (S l) lo hi = S (cut l lo hi) := by
  unfold cutS cut
  rw [S_len]
theorem cut_len (l : List Nat) (lo hi : Option Int) : (cut l lo hi).length ≤ l.length := by
  unfold cut
  rw [List.length_take, List.length_drop]
  omega
theorem cut_mem {l : List Nat} {lo hi : Option Int} {c : Nat} (h : c ∈ cut l lo hi) : c ∈ l := List.mem_of_mem_drop (List.mem_of_mem_take h)
theorem cut_from (l : List Nat) (i : Nat) : cut l (some (i : Int)) none = l.drop i := by
  unfold cut
  rw [HT.sIx_nat, HT.sIx_none]
  by_cases h : i ≤ l.length
  · rw [Nat.min_eq_left h, List.take_of_length_le (by rw [List.length_drop]; omega)]
  · rw [Nat.min_eq_right (by omega), List.drop_of_length_le (Nat.le_refl _), List.drop_of_length_le (by omega), List.take_nil]
theorem cut_to (l : List Nat) (i : Nat) : cut l none (some (i : Int)) = l.take i := by
  unfold cut
  rw [HT.sIx_nat, HT.sIx_none, List.drop_zero, Nat.sub_zero]
  by_cases h : i ≤ l.length
  · rw [Nat.min_eq_left h]
  · rw [Nat.min_eq_right (by omega), List.take_of_length_le (Nat.le_refl _), List.take_of_length_le (by omega)]
theorem cut_mid (l : List Nat) (i j : Nat) : cut l (some (i : Int)) (some (j : Int)) = (l.drop i).take (j - i) := by
  unfold cut
  rw [HT.sIx_nat, HT.sIx_nat]
  by_cases h : i ≤ l.length
  · rw [Nat.min_eq_left h]
    by_cases g : j ≤ l.length
    · rw [Nat.min_eq_left g]
    · rw [Nat.min_eq_right (by omega), List.take_of_length_le (by rw [List.length_drop]; omega), List.take_of_length_le (by rw [List.length_drop]; omega)]
  · rw [Nat.min_eq_right (show l.length ≤ i by omega), List.drop_of_length_le (Nat.le_refl _), List.drop_of_length_le (show l.length ≤ i by omega), List.take_nil, List.take_nil]
theorem cut_last (l : List Nat) : cut l none (some (-1)) = l.dropLast := by
  unfold cut
  rw [HT.sIx_none, List.drop_zero, Nat.sub_zero, List.dropLast_eq_take]
  congr 1
  show (if (-1 : Int) < 0 then ((-1 : Int) + (l.length : Int)).toNat else min (-1 : Int).toNat l.length) = l.length - 1
  rw [if_pos (by decide)]
  omega
section
variable {K : PySem.W.Frag} {σ : L2.St} {H H' : Hp} {ta tb te tx : TE} {t u : TT} {x y z v : V} {r : R2}
theorem ev_slS {tl th : TO} {l : List Nat} {lo hi : Option Int} (h : Ev te σ H (.str (S l))) (h1 : EvO tl σ H lo) (h2 : EvO th σ H hi) (hl : l.length ≤ 1000000) : Ev (tSl rSlS te tl th) σ H (.str (S (cut l lo hi))) := fun H1 e _ q =>
  h H1 e _ fun H2 e2 => h1 H2 (e.trans e2) _ fun H3 e3 => h2 H3 ((e.trans e2).trans e3) _ fun H4 e4 =>
    ⟨S l, rfl, by rw [S_len]; exact Nat.le_trans hl (by decide), by rw [cutS_S]; exact q H4 ((e2.trans e3).trans e4)⟩
def rLenStr : List V → Hp → VK → Prop := fun xs H Q => ∃ z, xs = [.str z] ∧ z.length ≤ sizeLine ∧ Q (.int z.length) H
theorem ev_lenS {l : List Nat} (h : Ev ta σ H (.str (S l))) (hl : l.length ≤ 1000000) : Ev (tCB (fun xs H Q => ∃ z, xs = [.str z] ∧ z.length ≤ sizeLine ∧ Q (.int z.length) H) (tCons ta tNil)) σ H (.int (l.length : Int)) := fun H1 e Q q =>
  h H1 e _ fun H2 e2 => ⟨S l, rfl, by rw [S_len]; exact Nat.le_trans hl (by decide), by rw [S_len]; exact q H2 e2⟩
theorem rv_ixS' {l : List Nat} {i : Int} {c : Nat} (hl : l.length ≤ 100000) (ha : atI l i = some c) : RV rIxS (.str (S l)) (.int i) H (.str (S [c])) := fun H1 _ _ q => ⟨S l, i, c, rfl, rfl, by rw [S_len]; exact sz_of hl, ha, q H1 (Ex.refl H1)⟩
/-- a built-in's method by values -/
def RM (r : V → List V → Hp → VK → Prop) (x : V) (vs : List V) (H : Hp) (z : V) : Prop := ∀ H1, Ex H H1 → ∀ Q : VK, (∀ H2, Ex H1 H2 → Q z H2) → r x vs H1 Q
theorem ev_bm {T : String} {r : V → List V → Hp → VK → Prop} {t : TA} {vs : List V} (h : Ev ta σ H x) (hT : ∀ H1, Ex H H1 → tyV K T x H1) (ha : EvA t σ H vs) (hr : RM r x vs H z) : Ev (tBM K T r ta t) σ H z := fun H1 e Q q =>
  h H1 e _ fun H2 e2 => ⟨hT H2 (e.trans e2), ha H2 (e.trans e2) _ fun H3 e3 => hr H3 ((e.trans e2).trans e3) Q fun H4 e4 => q H4 ((e2.trans e3).trans e4)⟩
/-- any value with a property -/
def EvQ (te : TE) (σ : L2.St) (H : Hp) (P : V → Prop) : Prop := ∀ H1, Ex H H1 → ∀ Q : VK, (∀ v H2, P v → Ex H1 H2 → Q v H2) → te σ H1 Q
def SpQ (sp : Sp) (vs : List V) (H : Hp) (P : V → Prop) : Prop := ∀ H1, Ex H H1 → ∀ Q : VK, (∀ v H2, P v → Ex H1 H2 → Q v H2) → ∀ E : XK, sp vs H1 Q E
theorem EvQ.mono {P : V → Prop} (e : Ex H H') (h : EvQ te σ H P) : EvQ te σ H' P := fun H1 a Q q => h H1 (e.trans a) Q q
theorem EvQ.imp {P P' : V → Prop} (h : EvQ te σ H P) (i : ∀ v, P v → P' v) : EvQ te σ H P' := fun H1 e Q q => h H1 e Q fun v H2 p e2 => q v H2 (i v p) e2
theorem Ev.toQ {P : V → Prop} (h : Ev te σ H v) (p : P v) : EvQ te σ H P := fun H1 e Q q => h H1 e Q fun H2 e2 => q v H2 p e2
theorem eq_call {sp : Sp} {dvs vs : List V} {E : XK} {ta : TA} {P : V → Prop} (h : EvA ta σ H vs) (hs : SpQ sp (vs ++ dvs) H P) : EvQ (tCall sp dvs E ta) σ H P := fun H1 e Q q =>
  h H1 e _ fun H2 e2 => hs H2 (e.trans e2) Q (fun v H3 p e3 => q v H3 p (e2.trans e3)) E
/-- an operation whose second operand is told by a property -/
theorem eq_op2 {P P2 : V → Prop} (ha : Ev ta σ H x) (hb : EvQ tb σ H P2) (hr : ∀ y, P2 y → ∃ z, P z ∧ RV r x y H z) : EvQ (tOp r ta tb) σ H P := fun H1 e Q q =>
  ha H1 e _ fun H2 e2 => hb H2 (e.trans e2) _ fun y H3 p e3 => by
    obtain ⟨z, pz, h⟩ := hr y p
    exact h H3 ((e.trans e2).trans e3) Q fun H4 e4 => q z H4 pz ((e2.trans e3).trans e4)
theorem eq_op1 {P P1 : V → Prop} (ha : EvQ ta σ H P1) (hb : Ev tb σ H y) (hr : ∀ x, P1 x → ∃ z, P z ∧ RV r x y H z) : EvQ (tOp r ta tb) σ H P := fun H1 e Q q =>
  ha H1 e _ fun x H2 p e2 => hb H2 (e.trans e2) _ fun H3 e3 => by
    obtain ⟨z, pz, h⟩ := hr x p
    exact h H3 ((e.trans e2).trans e3) Q fun H4 e4 => q z H4 pz ((e2.trans e3).trans e4)
variable {D : Ends} {tu tw tz : TS} {g : TG}
theorem s_asgQ {i : Nat} {P : V → Prop} (h : EvQ te σ H P) (k : ∀ v H1, P v → Ex H H1 → D.nx (σ.set i (some v)) H1) : tAsg te (gName i) D σ H := h H (Ex.refl H) _ fun v H1 p e => k v H1 p e
theorem q_asgQ {i : Nat} {P : V → Prop} (h : EvQ te σ H P) (k : ∀ v H1, P v → Ex H H1 → tz D (σ.set i (some v)) H1) : tSeq (tAsg te (gName i)) tz D σ H := s_asgQ (D := { D with nx := tz D }) h k
theorem s_retQ {P : V → Prop} (h : EvQ te σ H P) (k : ∀ v H1, P v → Ex H H1 → D.rt v H1) : tRet te D σ H := h H (Ex.refl H) _ fun v H1 p e => k v H1 p e
end
/-! ### s * n -/
theorem rep_S (l : List Nat) (n : Nat) : (⟨(List.replicate n (S l).cps).foldl (· ++ ·) #[]⟩ : Str) = S ((List.replicate n l).flatten) := by
  have h : ∀ (n : Nat) (acc : List Nat), (List.replicate n (S l).cps).foldl (· ++ ·) acc.toArray = (acc ++ (List.replicate n l).flatten).toArray := by
    intro n
    induction n with
    | zero => intro acc; simp
    | succ n ih =>
      intro acc
      rw [List.replicate_succ, List.foldl_cons, List.replicate_succ, List.flatten_cons, ← List.append_assoc, ← ih]
      congr 1
      simp
  have := h n []
  rw [List.nil_append] at this
  rw [this]
def rMulS : R2 := fun x y H Q => ∃ (l : List Nat) (n : Nat), x = .str (S l) ∧ y = .int (n : Int) ∧ l.length * n ≤ 1000000 ∧ n ≤ 1000000 ∧ Q (.str (S ((List.replicate n l).flatten))) H
theorem op_mul_str {X : Cx} : OpR X (binaryOp .Mult) rMulS := by
  intro pins s σ H x y v u Q I rx ry h
  obtain ⟨l, n, rfl, rfl, hl, hn, q⟩ := h
  obtain ⟨t, rfl⟩ := rx
  obtain ⟨t2, rfl⟩ := ry
  have hz : l.length * n ≤ sizeLine := Nat.le_trans hl (by decide)
  refine PySem.P.mul_str ?_ ?_ ?_ ?_
  · rw [decide_eq_false (by omega), decide_eq_false (by omega)]; rfl
  · intro h1 _
    rw [S_len]
    have e : ((2 : Int) ^ 63 - 1) / (n : Int) ≥ l.length := by
      apply Int.le_ediv_of_mul_le (by omega)
      have : ((l.length * n : Nat) : Int) ≤ 1000000 := by omega
      rw [Int.natCast_mul] at this
      omega
    omega
  · intro _ _
    rw [S_len, Int.toNat_natCast]
    unfold Builtin.Str.tooLong
    simp
    omega
  · by_cases h1 : (n : Int) < 1
    · have e : n = 0 := by omega
      subst e
      rw [if_pos h1]
      exact ⟨by decide, .str (S []), H, I.tok _, ⟨_, rfl⟩, q⟩
    · rw [if_neg h1]
      by_cases h2 : (((n : Int) == 1) || ((S l).length == 0)) = true
      · rw [if_pos h2]
        have e : (List.replicate n l).flatten = l := by
          rw [Bool.or_eq_true] at h2
          rcases h2 with h2 | h2
          · have : n = 1 := by have := eq_of_beq h2; omega
            subst this
            simp
          · rw [S_len] at h2
            have : l = [] := List.eq_nil_of_length_eq_zero (eq_of_beq h2)
            subst this
            simp
        rw [e] at q
        exact ⟨.str (S l), H, I, ⟨_, rfl⟩, q⟩
      · rw [if_neg h2, Int.toNat_natCast, rep_S]
        refine ⟨?_, .str _, H, I.tok _, ⟨_, rfl⟩, q⟩
        rw [S_len, List.length_flatten]
        simp
        rw [Nat.mul_comm]
        exact hz
theorem rv_mulS {l : List Nat} {n : Nat} {H : Hp} (h : l.length * n ≤ 1000000) (h2 : n ≤ 1000000) : RV rMulS (.str (S l)) (.int (n : Int)) H (.str (S ((List.replicate n l).flatten))) := fun H1 _ _ q => ⟨l, n, rfl, rfl, h, h2, q H1 (Ex.refl H1)⟩
end WP
namespace WP
open PySem PySem.Spec PyProof.Rows L2 Evl
open SX (S S_len S_cat S_inj S_tl)
/-! ### kinds of things -/
/-- what may be handed in, with its type's name -/
inductive Thing (H : Hp) : V → String → Prop where
  | non : Thing H .non "NoneType"
  | bl (b : Bool) : Thing H (.bl b) "bool"
  | int (i : Int) : Thing H (.int i) "int"
  | str (l : List Nat) (h : l.length ≤ 1000000) : Thing H (.str (S l)) "str"
  | lst {a : Addr} {xs : List V} (e : H a = some (.lst xs)) : Thing H (.ref a) "list"
  | tup {a : Addr} {xs : List V} (e : H a = some (.tup xs)) : Thing H (.ref a) "tuple"
  | dK {a : Addr} {kvs : List (Key × V)} (e : H a = some (.dK kvs)) : Thing H (.ref a) "dict"
theorem Thing.ex {H H' : Hp} {v : V} {n : String} (e : Ex H H') (h : Thing H v n) : Thing H' v n := by
  cases h with
  | non => exact .non
  | bl b => exact .bl b
  | int i => exact .int i
  | str l h => exact .str l h
  | lst q => exact .lst (e _ _ q)
  | tup q => exact .tup (e _ _ q)
  | dK q => exact .dK (e _ _ q)
theorem Thing.ty {K : PySem.W.Frag} {H : Hp} {v : V} {n : String} (h : Thing H v n) : TyX K H v (.type n) := by
  cases h with
  | non => exact .base .non
  | bl b => exact .base (.bl b)
  | int i => exact .base (.int i)
  | str l h => exact .base (.str _)
  | lst q => exact .base (.lst q)
  | tup q => exact .base (.tup q)
  | dK q => exact .base (.dK q)
section
variable {K : PySem.W.Frag} {σ : L2.St} {H H' : Hp} {ta tb te tx : TE} {t u : TT} {x y z v : V} {r : R2}
/-- isinstance(x, T), T a built-in type -/
theorem ev_isi {T n : String} {b : Bool} (h : Ev ta σ H v) (th : Thing H v n) (hk : kitB n T = some b) : Ev (tCB (rIsi K) (tCons ta (tCons (tC (.ty T)) tNil))) σ H (.bl b) := fun H1 e Q q =>
  h H1 e _ fun H2 e2 => ⟨v, .ty T, .type n, .type T, b, rfl, .ty T, (th.ex (e.trans e2)).ty, kit_ty hk, q H2 e2⟩
/-- .. of an own class's instance, or any value whose type is known -/
theorem ev_isiX {c : V} {ty u : Value} {b : Bool} (h : Ev ta σ H v) (hc : ClsV c u) (th : ∀ H1, Ex H H1 → TyX K H1 v ty) (hk : PySem.W.kitOne K ty u = some b) : Ev (tCB (rIsi K) (tCons ta (tCons (tC c) tNil))) σ H (.bl b) := fun H1 e Q q =>
  h H1 e _ fun H2 e2 => ⟨v, c, ty, u, b, rfl, hc, th H2 (e.trans e2), hk, q H2 e2⟩
end
/-! ### strip -/
theorem tw_all {p : Nat → Bool} : ∀ l : List Nat, (∀ c ∈ l, p c = true) → l.takeWhile p = l
  | [], _ => rfl
  | c :: r, h => by rw [List.takeWhile_cons, if_pos (h c List.mem_cons_self), tw_all r fun d hd => h d (List.mem_cons_of_mem _ hd)]
theorem tw_mem {p : Nat → Bool} : ∀ {l : List Nat} {c : Nat}, c ∈ l.takeWhile p → p c = true
  | [], c, h => by cases h
  | d :: r, c, h => by
    rw [List.takeWhile_cons] at h
    by_cases hp : p d = true
    · rw [if_pos hp] at h
      rcases List.mem_cons.mp h with e | e
      · rw [e]; exact hp
      · exact tw_mem e
    · rw [if_neg hp] at h
      cases h
theorem strip_S (l cs : List Nat) : decide (Txt.stripChars (S l) (S cs) = S []) = l.all (fun c => cs.contains c) := by
  have hg : ∀ c, (S cs).cps.contains c = cs.contains c := fun c => by
    show cs.toArray.contains c = cs.contains c
    simp
  rw [Bool.eq_iff_iff, decide_eq_true_eq, List.all_eq_true]
  constructor
  · intro h
    unfold Txt.stripChars Txt.stripBy at h
    split at h
    · have e := S_inj h
      subst e
      intro c hc
      cases hc
    · unfold stripped Builtin.Str.strSub at h
      have hlen : ((S l).cps.extract (stripLo (S cs).cps.contains true (S l)) (stripHi (S cs).cps.contains true (S l) (stripLo (S cs).cps.contains true (S l)))).size = 0 := by
        have := congrArg (fun z : Str => z.cps.size) h
        simpa using this
      rw [Array.size_extract] at hlen
      unfold stripLo stripHi at hlen
      simp only [if_true] at hlen
      have ecps : (S l).cps.toList = l := rfl
      have esz : (S l).cps.size = l.length := by simp [S]
      have hs : l.toArray.size = l.length := by simp
      have hlen2 : min (l.length - ((l.drop (l.takeWhile (S cs).cps.contains).length).reverse.takeWhile (S cs).cps.contains).length) l.length - (l.takeWhile (S cs).cps.contains).length = 0 := by
        rw [S_len, hs] at hlen
        exact hlen
      have a1 : (l.takeWhile (S cs).cps.contains).length ≤ l.length := (List.takeWhile_prefix _).length_le
      have a2 : ((l.drop (l.takeWhile (S cs).cps.contains).length).reverse.takeWhile (S cs).cps.contains).length ≤ (l.drop (l.takeWhile (S cs).cps.contains).length).reverse.length := (List.takeWhile_prefix _).length_le
      rw [List.length_reverse, List.length_drop] at a2
      have key : ∀ (p : Nat → Bool) (l : List Nat), l.length ≤ (l.takeWhile p).length + ((l.drop (l.takeWhile p).length).reverse.takeWhile p).length → ∀ c ∈ l, p c = true := by
        intro p l hl
        have hd : l.drop (l.takeWhile p).length = l.dropWhile p := by
          have := List.takeWhile_append_dropWhile (p := p) (l := l)
          conv => lhs; rw [← this]
          rw [show (l.takeWhile p ++ l.dropWhile p).takeWhile p = l.takeWhile p by rw [this]]
          exact List.drop_left
        rw [hd] at hl
        have hln : l.length = (l.takeWhile p).length + (l.dropWhile p).length := by
          rw [← List.length_append, List.takeWhile_append_dropWhile]
        have h3 : (l.dropWhile p).reverse.takeWhile p = (l.dropWhile p).reverse := by
          have hs : (l.dropWhile p).reverse.takeWhile p <+: (l.dropWhile p).reverse := List.takeWhile_prefix p
          exact hs.eq_of_length_le (by rw [List.length_reverse]; omega)
        intro c hc
        rw [← List.takeWhile_append_dropWhile (p := p) (l := l)] at hc
        rcases List.mem_append.mp hc with q | q
        · exact tw_mem q
        · have : c ∈ (l.dropWhile p).reverse.takeWhile p := by rw [h3]; exact List.mem_reverse.mpr q
          exact tw_mem this
      intro c hc
      rw [← hg]
      exact key _ l (by omega) c hc
  · intro h
    have hp : ∀ c ∈ l, (S cs).cps.contains c = true := fun c hc => by rw [hg]; exact h c hc
    have e0 : stripLo (S cs).cps.contains true (S l) = l.length := by
      unfold stripLo
      rw [if_pos rfl]
      show (l.takeWhile _).length = _
      rw [tw_all l hp]
    have e1 : stripHi (S cs).cps.contains true (S l) l.length = l.length := by
      unfold stripHi
      rw [if_pos rfl, S_len]
      show l.length - ((l.drop l.length).reverse.takeWhile _).length = _
      rw [List.drop_length]
      simp
    unfold Txt.stripChars Txt.stripBy stripSame
    rw [e0, e1, S_len]
    by_cases hl : l.length = 0
    · have : l = [] := List.eq_nil_of_length_eq_zero hl
      subst this
      rfl
    · rw [if_neg (by simp [hl])]
      unfold stripped Builtin.Str.strSub
      rw [e0, e1]
      simp [S]
/-! ### == of lists of plain things -/
section
variable {K : PySem.W.Frag} {H : Hp} {a b : Addr}
theorem dp_map {α : Type} {f : α → V} {g : α → PyData} (hd : ∀ x, Dp K H (f x) (g x)) : ∀ xs : List α, DpAll K H (xs.map f) (xs.map g)
  | [] => .nil
  | x :: xs => .cons (hd x) (dp_map hd xs)
theorem shaped_map {α : Type} {g : α → PyData} : ∀ (xs : List α), (∀ x ∈ xs, (g x).canLay0 = true ∧ (g x).depth ≤ 1) → SeqAt.shaped (.list (xs.map g)) = true := by
  have h1 : ∀ (xs : List α), (∀ x ∈ xs, (g x).canLay0 = true ∧ (g x).depth ≤ 1) → PyData.canLayAll0 (xs.map g) = true ∧ PyData.depthAll (xs.map g) ≤ 1 := by
    intro xs
    induction xs with
    | nil => intro _; exact ⟨rfl, by simp [PyData.depthAll]⟩
    | cons x xs ih =>
      intro hl
      have q := ih fun y hy => hl y (List.mem_cons_of_mem _ hy)
      have p := hl x List.mem_cons_self
      rw [List.map_cons, PyData.canLayAll0, PyData.depthAll, p.1, q.1]
      exact ⟨rfl, by omega⟩
  intro xs hl
  have q := h1 xs hl
  unfold SeqAt.shaped
  rw [Bool.and_eq_true, decide_eq_true_eq]
  refine ⟨by rw [PyData.canLay0]; exact q.1, ?_⟩
  rw [PyData.depth]
  omega
theorem eqvAll_map {α : Type} [DecidableEq α] {g : α → PyData} (he : ∀ x y, PyData.eqv (g x) (g y) = decide (x = y)) : ∀ xs ys : List α, PyData.eqvAll (xs.map g) (ys.map g) = decide (xs = ys)
  | [], [] => by simp [PyData.eqvAll]
  | x :: xs, [] => by simp [PyData.eqvAll]
  | [], y :: ys => by simp [PyData.eqvAll]
  | x :: xs, y :: ys => by
    rw [List.map_cons, List.map_cons, PyData.eqvAll, he, eqvAll_map he xs ys, Bool.eq_iff_iff, Bool.and_eq_true, decide_eq_true_eq, decide_eq_true_eq, decide_eq_true_eq, List.cons.injEq]
theorem rv_eqL {α : Type} [DecidableEq α] (f : α → V) (g : α → PyData) (hd : ∀ H1 x, Dp K H1 (f x) (g x)) (he : ∀ x y, PyData.eqv (g x) (g y) = decide (x = y)) {xs ys : List α} (hl : ∀ x ∈ xs, (g x).canLay0 = true ∧ (g x).depth ≤ 1) (hl2 : ∀ x ∈ ys, (g x).canLay0 = true ∧ (g x).depth ≤ 1) (ha : SqL K H a (xs.map f)) (hb : SqL K H b (ys.map f)) :
    RV (rEqD K) (.ref a) (.ref b) H (.bl (decide (xs = ys))) := fun H1 e Q q =>
  ⟨.list (xs.map g), .list (ys.map g), .lst (ex_l e ha) (dp_map (hd H1) xs), .lst (ex_l e hb) (dp_map (hd H1) ys), shaped_map xs hl, shaped_map ys hl2, by
    rw [PyData.eqv, eqvAll_map he]
    exact q H1 (Ex.refl H1)⟩
theorem rv_neL {α : Type} [DecidableEq α] (f : α → V) (g : α → PyData) (hd : ∀ H1 x, Dp K H1 (f x) (g x)) (he : ∀ x y, PyData.eqv (g x) (g y) = decide (x = y)) {xs ys : List α} (hl : ∀ x ∈ xs, (g x).canLay0 = true ∧ (g x).depth ≤ 1) (hl2 : ∀ x ∈ ys, (g x).canLay0 = true ∧ (g x).depth ≤ 1) (ha : SqL K H a (xs.map f)) (hb : SqL K H b (ys.map f)) :
    RV (rNeD K) (.ref a) (.ref b) H (.bl (!decide (xs = ys))) := fun H1 e Q q =>
  ⟨.list (xs.map g), .list (ys.map g), .lst (ex_l e ha) (dp_map (hd H1) xs), .lst (ex_l e hb) (dp_map (hd H1) ys), shaped_map xs hl, shaped_map ys hl2, by
    rw [PyData.eqv, eqvAll_map he]
    exact q H1 (Ex.refl H1)⟩
theorem eqv_int (x y : Int) : PyData.eqv (.int x) (.int y) = decide (x = y) := by
  rw [PyData.eqv, Bool.eq_iff_iff, beq_iff_eq, decide_eq_true_eq]
theorem eqv_str (x y : List Nat) : PyData.eqv (.str (S x)) (.str (S y)) = decide (x = y) := by
  rw [PyData.eqv, Bool.eq_iff_iff, beq_iff_eq, decide_eq_true_eq]
  exact ⟨fun h => S_inj h, fun h => by rw [h]⟩
theorem eqv_bool (x y : Bool) : PyData.eqv (.bool x) (.bool y) = decide (x = y) := by
  rw [PyData.eqv, Bool.eq_iff_iff, beq_iff_eq, decide_eq_true_eq]
theorem lay_int' (x : Nat) : (PyData.int (x : Int)).canLay0 = true ∧ (PyData.int (x : Int)).depth ≤ 1 := ⟨by simp [PyData.canLay0], by simp [PyData.depth]⟩
theorem eqv_nat (x y : Nat) : PyData.eqv (.int (x : Int)) (.int (y : Int)) = decide (x = y) := by
  rw [eqv_int, Bool.eq_iff_iff, decide_eq_true_eq, decide_eq_true_eq]
  omega
theorem lay_int (x : Int) : (PyData.int x).canLay0 = true ∧ (PyData.int x).depth ≤ 1 := ⟨by simp [PyData.canLay0], by simp [PyData.depth]⟩
theorem lay_bool (x : Bool) : (PyData.bool x).canLay0 = true ∧ (PyData.bool x).depth ≤ 1 := ⟨by simp [PyData.canLay0], by simp [PyData.depth]⟩
abbrev vS (l : List Nat) : V := .str (S l)
/-- signs that are code points -/
def Cps (l : List Nat) : Prop := ∀ c ∈ l, c < 1000
theorem lay_str {x : List Nat} (h : Cps x) : (PyData.str (S x)).canLay0 = true ∧ (PyData.str (S x)).depth ≤ 1 := by
  refine ⟨?_, by simp [PyData.depth]⟩
  rw [PyData.canLay0]
  unfold PyData.strOk
  rw [← Array.all_toList, List.all_eq_true]
  intro c hc
  have : c < 1000 := h c hc
  exact decide_eq_true (by omega)
theorem rv_eqLI {xs ys : List Int} (ha : SqL K H a (xs.map V.int)) (hb : SqL K H b (ys.map V.int)) : RV (rEqD K) (.ref a) (.ref b) H (.bl (decide (xs = ys))) := rv_eqL V.int .int (fun _ x => .int x) eqv_int (fun x _ => lay_int x) (fun x _ => lay_int x) ha hb
theorem rv_neLI {xs ys : List Int} (ha : SqL K H a (xs.map V.int)) (hb : SqL K H b (ys.map V.int)) : RV (rNeD K) (.ref a) (.ref b) H (.bl (!decide (xs = ys))) := rv_neL V.int .int (fun _ x => .int x) eqv_int (fun x _ => lay_int x) (fun x _ => lay_int x) ha hb
abbrev vN (n : Nat) : V := .int (n : Int)
theorem rv_eqLN {xs ys : List Nat} (ha : SqL K H a (xs.map vN)) (hb : SqL K H b (ys.map vN)) : RV (rEqD K) (.ref a) (.ref b) H (.bl (decide (xs = ys))) := rv_eqL vN (fun n => .int (n : Int)) (fun _ x => .int _) eqv_nat (fun x _ => lay_int' x) (fun x _ => lay_int' x) ha hb
theorem rv_neLN {xs ys : List Nat} (ha : SqL K H a (xs.map vN)) (hb : SqL K H b (ys.map vN)) : RV (rNeD K) (.ref a) (.ref b) H (.bl (!decide (xs = ys))) := rv_neL vN (fun n => .int (n : Int)) (fun _ x => .int _) eqv_nat (fun x _ => lay_int' x) (fun x _ => lay_int' x) ha hb
theorem rv_eqLB {xs ys : List Bool} (ha : SqL K H a (xs.map V.bl)) (hb : SqL K H b (ys.map V.bl)) : RV (rEqD K) (.ref a) (.ref b) H (.bl (decide (xs = ys))) := rv_eqL V.bl .bool (fun _ x => .bl x) eqv_bool (fun x _ => lay_bool x) (fun x _ => lay_bool x) ha hb
theorem rv_neLB {xs ys : List Bool} (ha : SqL K H a (xs.map V.bl)) (hb : SqL K H b (ys.map V.bl)) : RV (rNeD K) (.ref a) (.ref b) H (.bl (!decide (xs = ys))) := rv_neL V.bl .bool (fun _ x => .bl x) eqv_bool (fun x _ => lay_bool x) (fun x _ => lay_bool x) ha hb
theorem rv_eqLS {xs ys : List (List Nat)} (hx : ∀ l ∈ xs, Cps l) (hy : ∀ l ∈ ys, Cps l) (ha : SqL K H a (xs.map vS)) (hb : SqL K H b (ys.map vS)) : RV (rEqD K) (.ref a) (.ref b) H (.bl (decide (xs = ys))) := rv_eqL vS (fun l => .str (S l)) (fun _ x => .str _) eqv_str (fun x h => lay_str (hx x h)) (fun x h => lay_str (hy x h)) ha hb
theorem rv_neLS {xs ys : List (List Nat)} (hx : ∀ l ∈ xs, Cps l) (hy : ∀ l ∈ ys, Cps l) (ha : SqL K H a (xs.map vS)) (hb : SqL K H b (ys.map vS)) : RV (rNeD K) (.ref a) (.ref b) H (.bl (!decide (xs = ys))) := rv_neL vS (fun l => .str (S l)) (fun _ x => .str _) eqv_str (fun x h => lay_str (hx x h)) (fun x h => lay_str (hy x h)) ha hb
end
/-! ### comprehensions -/
section
variable {K : PySem.W.Frag} {σ : L2.St} {H H' : Hp} {ta tb te tx : TE} {t u : TT} {x y z v : V} {r : R2}
/-- over range(n), n of any sign -/
theorem el_lcR {ta : TA} {j : Nat} {vs : List Nat} {n : Int} (f : Nat → Bool) (v : Nat → V) (h : EvA ta σ H [.int n]) (hn : -100000 ≤ n ∧ n ≤ 40000) (hw : ∀ x, wipe ((wipe σ vs).set j (some x)) vs = wipe σ vs)
    (ht : ∀ (i : Nat) H1, Ex H H1 → (i : Int) < n → EvT t ((wipe σ vs).set j (some (.int (i : Int)))) H1 (f i)) (he : ∀ (i : Nat) H1, Ex H H1 → (i : Int) < n → f i = true → Ev te ((wipe σ vs).set j (some (.int (i : Int)))) H1 (v i)) :
    EvL (tLc (iRng1 ta) (gName j) t te vs) σ H (given n.toNat f v) := fun H0 e Q q => h H0 e _ fun H1 e1 => ⟨n, rfl, by omega, by omega, fun Dl hD =>
  lc_range (lo := 0) (n := n.toNat) (Cw H1 f v Dl) ⟨hD, Ex.new hD, upd_same⟩ (fun i H' hi p => by
    have e0 : (0 : Int) + (i : Int) = (i : Int) := Int.zero_add _
    show wipe ((wipe σ vs).set j (some (.int ((0 : Int) + (i : Int))))) vs = wipe σ vs ∧ t ((wipe σ vs).set j (some (.int ((0 : Int) + (i : Int))))) H' fun b H3 => if b = true then te ((wipe σ vs).set j (some (.int ((0 : Int) + (i : Int))))) H3 fun y H4 => ∃ acc, H4 Dl = some (.lst acc) ∧ acc.length < sizeLine ∧ Cw H1 f v Dl (i + 1) (upd H4 Dl (.lst (acc ++ [y]))) else Cw H1 f v Dl (i + 1) H3
    rw [e0]
    exact ⟨hw _, cw_turn p (by omega) (ht i H1 (e.trans e1) (by omega)) (fun hf => he i H1 (e.trans e1) (by omega) hf)⟩) (fun H' p => q Dl H' (fresh_back e1 p.1) (e1.trans p.2.1) p.2.2)⟩
theorem et_yes : EvT tYes σ H true := fun H1 _ _ q => q H1 (Ex.refl H1)
theorem given_all (n : Nat) (v : Nat → V) : given n (fun _ => true) v = (List.range n).map v := by
  unfold given
  rw [List.filter_eq_self.mpr (fun _ _ => rfl)]
/-- the first operand a new tuple -/
theorem ev_opU1 {xs : List V} (ha : EvU ta σ H xs) (hb : Ev tb σ H y) (hr : ∀ p H1, H1 p = some (.tup xs) → Ex H H1 → RV r (.ref p) y H1 z) : Ev (tOp r ta tb) σ H z := fun H1 e Q q =>
  ha H1 e _ fun p H2 _ e2 hp => hb H2 (e.trans e2) _ fun H3 e3 => hr p H3 (e3 p _ hp) ((e.trans e2).trans e3) H3 (Ex.refl H3) Q fun H4 e4 => q H4 ((e2.trans e3).trans e4)
/-- f(..), a call that may raise, as a statement; x = f(..); return f(..) -/
theorem q_dropC {sp : Sp} {dvs vs : List V} {E : XK} {ta : TA} {tz : TS} {D : Ends} (h : EvA ta σ H vs) (k : ∀ H1, Ex H H1 → sp (vs ++ dvs) H1 (fun _ H2 => tz D σ H2) E) : tSeq (tDrop (tCall sp dvs E ta)) tz D σ H := h H (Ex.refl H) _ fun H1 e => k H1 e
theorem q_asgC {i : Nat} {sp : Sp} {dvs vs : List V} {E : XK} {ta : TA} {tz : TS} {D : Ends} (h : EvA ta σ H vs) (k : ∀ H1, Ex H H1 → sp (vs ++ dvs) H1 (fun v H2 => tz D (σ.set i (some v)) H2) E) : tSeq (tAsg (tCall sp dvs E ta) (gName i)) tz D σ H := h H (Ex.refl H) _ fun H1 e => k H1 e
theorem s_retC {sp : Sp} {dvs vs : List V} {E : XK} {ta : TA} {D : Ends} (h : EvA ta σ H vs) (k : ∀ H1, Ex H H1 → sp (vs ++ dvs) H1 D.rt E) : tRet (tCall sp dvs E ta) D σ H := h H (Ex.refl H) _ fun H1 e => k H1 e
/-- xs[::-1], xs + ys, new lists -/
theorem el_rev {a : Addr} {xs : List V} (h : Ev te σ H (.ref a)) (hs : SqL K H a xs) : EvL (tRevL K te) σ H xs.reverse := fun H1 e _ q =>
  h H1 e _ fun H2 e2 => ⟨a, xs, rfl, ex_l (e.trans e2) hs, fun p hp => q p _ (fresh_back e2 hp) (e2.trans (Ex.new hp)) upd_same⟩
theorem el_revN {xs : List V} (h : EvL te σ H xs) : EvL (tRevL K te) σ H xs.reverse := fun H1 e _ q =>
  h H1 e _ fun a H2 _ e2 ha => ⟨a, xs, rfl, sq_of ha, fun p hp => q p _ (fresh_back e2 hp) (e2.trans (Ex.new hp)) upd_same⟩
theorem el_slN {tl th : TO} {xs : List V} {lo hi : Option Int} (h : EvL te σ H xs) (h1 : EvO tl σ H lo) (h2 : EvO th σ H hi) : EvL (tSl (rSlL K) te tl th) σ H (cutV xs lo hi) := fun H1 e _ q =>
  h H1 e _ fun a H2 _ e2 ha => h1 H2 (e.trans e2) _ fun H3 e3 => h2 H3 ((e.trans e2).trans e3) _ fun H4 e4 =>
    ⟨a, xs, rfl, sq_of ((e3.trans e4) _ _ ha), fun p hp => q p _ (fresh_back ((e2.trans e3).trans e4) hp) (((e2.trans e3).trans e4).trans (Ex.new hp)) upd_same⟩
theorem el_cat {a : Addr} {xs ys : List V} (ha : Ev ta σ H (.ref a)) (hs : H a = some (.lst xs)) (hb : EvL tb σ H ys) (hz : xs.length + ys.length ≤ 1000000) : EvL (tOp rCat ta tb) σ H (xs ++ ys) := fun H1 e _ q =>
  ha H1 e _ fun H2 e2 => hb H2 (e.trans e2) _ fun b H3 hn e3 hb3 => ⟨a, b, xs, ys, rfl, rfl, ((e.trans e2).trans e3) _ _ hs, hb3, Nat.le_trans hz (by decide), fun p hp => q p _ (fresh_back (e2.trans e3) hp) ((e2.trans e3).trans (Ex.new hp)) upd_same⟩
theorem el_catN {xs ys : List V} (ha : EvL ta σ H xs) (hb : EvL tb σ H ys) (hz : xs.length + ys.length ≤ 1000000) : EvL (tOp rCat ta tb) σ H (xs ++ ys) := fun H1 e _ q =>
  ha H1 e _ fun a H2 _ e2 hs => hb H2 (e.trans e2) _ fun b H3 hn e3 hb3 => ⟨a, b, xs, ys, rfl, rfl, e3 _ _ hs, hb3, Nat.le_trans hz (by decide), fun p hp => q p _ (fresh_back (e2.trans e3) hp) ((e2.trans e3).trans (Ex.new hp)) upd_same⟩
/-- all, any, sum of a new list; len of one, list(xs) -/
theorem ev_all {bs : List Bool} (h : EvL ta σ H (bs.map V.bl)) : Ev (tCB (rAll K) (tCons ta tNil)) σ H (.bl (bs.all id)) := fun H1 e Q q => h H1 e _ fun p H2 _ e2 h2 => ⟨p, bs, rfl, sq_of h2, q H2 e2⟩
theorem ev_any {bs : List Bool} (h : EvL ta σ H (bs.map V.bl)) : Ev (tCB (rAny K) (tCons ta tNil)) σ H (.bl (bs.any id)) := fun H1 e Q q => h H1 e _ fun p H2 _ e2 h2 => ⟨p, bs, rfl, sq_of h2, q H2 e2⟩
theorem ev_sum {ns : List Int} (h : EvL ta σ H (ns.map V.int)) : Ev (tCB (rSum K) (tCons ta tNil)) σ H (.int ns.sum) := fun H1 e Q q => h H1 e _ fun p H2 _ e2 h2 => ⟨p, ns, rfl, sq_of h2, q H2 e2⟩
/-- a call whose first argument is a new list -/
theorem eq_callL1 {sp : Sp} {E : XK} {tr : TA} {xs vs : List V} {P : V → Prop} (h : EvL ta σ H xs) (hr : EvA tr σ H vs) (hs : ∀ p H1, H1 p = some (.lst xs) → Ex H H1 → SpQ sp (.ref p :: vs) H1 P) : EvQ (tCall sp [] E (tCons ta tr)) σ H P := fun H1 e Q q =>
  h H1 e _ fun p H2 _ e2 hp => hr H2 (e.trans e2) _ fun H3 e3 => by
    show sp ((.ref p :: vs) ++ []) H3 Q E
    rw [List.append_nil]
    exact hs p H3 (e3 _ _ hp) ((e.trans e2).trans e3) H3 (Ex.refl H3) Q (fun v H4 pv e4 => q v H4 pv ((e2.trans e3).trans e4)) E
theorem ev_callL1 {sp : Sp} {E : XK} {tr : TA} {xs vs : List V} (h : EvL ta σ H xs) (hr : EvA tr σ H vs) (hs : ∀ p H1, H1 p = some (.lst xs) → Ex H H1 → SpV sp (.ref p :: vs) H1 z) : Ev (tCall sp [] E (tCons ta tr)) σ H z := fun H1 e Q q =>
  h H1 e _ fun p H2 _ e2 hp => hr H2 (e.trans e2) _ fun H3 e3 => by
    show sp ((.ref p :: vs) ++ []) H3 Q E
    rw [List.append_nil]
    exact hs p H3 (e3 _ _ hp) ((e.trans e2).trans e3) H3 (Ex.refl H3) Q (fun H4 e4 => q H4 ((e2.trans e3).trans e4)) E
/-- a, b = e1, e2, by a new tuple -/
theorem q_asgT2 {te1 te2 : TE} {i j : Nat} {P1 P2 : V → Prop} {tz : TS} {D : Ends} (h1 : EvQ te1 σ H P1) (h2 : EvQ te2 σ H P2) (k : ∀ v1 v2 H1, P1 v1 → P2 v2 → Ex H H1 → tz D ((σ.set i (some v1)).set j (some v2)) H1) :
    tSeq (tAsg (tTup (tCons te1 (tCons te2 tNil))) (gTup K 2 (gCons (gName i) (gCons (gName j) gNil)))) tz D σ H := h1 H (Ex.refl H) _ fun v1 H1 p1 e1 => h2 H1 e1 _ fun v2 H2 p2 e2 =>
  ⟨by show 2 ≤ sizeLine; decide, fun p hp => ⟨p, [v1, v2], rfl, .inl (.inl upd_same), rfl, v1, [v2], rfl, v2, [], rfl, rfl, k v1 v2 _ p1 p2 ((e1.trans e2).trans (Ex.new hp))⟩⟩
/-- a new list, told by a property -/
def EvLQ (te : TE) (σ : L2.St) (H : Hp) (P : List V → Prop) : Prop := ∀ H1, Ex H H1 → ∀ Q : VK, (∀ xs p H2, P xs → H1 p = none → Ex H1 H2 → H2 p = some (.lst xs) → Q (.ref p) H2) → te σ H1 Q
/-- over enumerate of a new list, no test: each value has a property -/
theorem eq_lcE {xs : List V} {tl : TE} {i j : Nat} {vs : List Nat} (P : Nat → V → Prop) (h : EvL tl σ H xs) (hz : xs.length ≤ 40000) (hw : ∀ x y, wipe (((wipe σ vs).set i (some x)).set j (some y)) vs = wipe σ vs)
    (he : ∀ (k : Nat) (x : V) H1, Ex H H1 → xs[k]? = some x → EvQ te (((wipe σ vs).set i (some (.int (k : Int)))).set j (some x)) H1 (P k)) :
    EvLQ (tLc (iEnum K (tCons tl tNil)) (gTup K 2 (gCons (gName i) (gCons (gName j) gNil))) tYes te vs) σ H (fun ys => ys.length = xs.length ∧ ∀ k y, ys[k]? = some y → P k y) := fun H0 e Q q => by
  refine h H0 e _ fun a H1 ha e1 hx => ⟨a, xs, rfl, sq_of hx, fun D hD => ?_⟩
  refine lc_it (w := walk_enum (K := K) (a := a) (xs := xs)) (fun k H' => ∃ acc, H1 D = none ∧ Ex H1 H' ∧ H' D = some (.lst acc) ∧ acc.length = k ∧ ∀ m y, acc[m]? = some y → P m y) ⟨[], hD, Ex.new hD, upd_same, rfl, fun m y hm => by cases hm⟩ (fun k H' _ p => ?_) (fun k x H' H'' hk p y => ?_) (fun H' p => ?_)
  · obtain ⟨acc, p1, p2, p3, p4, p5⟩ := p
    exact sq_of (p2 _ _ hx)
  · obtain ⟨acc, p1, p2, p3, p4, p5⟩ := p
    obtain ⟨T, a1, a2, rfl, nT, rfl, e3, e4⟩ := y
    cases (Option.some.inj e3)
    refine ⟨T, [.int (k : Nat), a2], rfl, .inl (.inl upd_same), rfl, _, _, rfl, _, _, rfl, rfl, hw _ _, ?_⟩
    unfold tYes
    simp only [↓reduceIte]
    have x1 : Ex H1 (upd H' T (.tup [.int (k : Nat), a2])) := p2.trans (Ex.new nT)
    refine he k a2 H1 (e.trans e1) e4 _ x1 _ fun v H3 pv e3 => ⟨acc, e3 _ _ ?_, sz_lt (by omega), acc ++ [v], p1, Ex.mut (x1.trans e3) p1, upd_same, ?_, fun m y hm => ?_⟩
    · rw [upd_ne (ne_of_none p3 nT)]
      exact p3
    · rw [List.length_append, p4]
      rfl
    · by_cases hmk : m < acc.length
      · rw [List.getElem?_append_left hmk] at hm
        exact p5 m y hm
      · rw [List.getElem?_append_right (by omega)] at hm
        have : m - acc.length = 0 := by
          cases hh : m - acc.length with
          | zero => rfl
          | succ n => rw [hh] at hm; cases hm
        rw [this] at hm
        cases hm
        have : m = k := by omega
        subst this
        exact pv
  · obtain ⟨acc, p1, p2, p3, p4, p5⟩ := p
    exact q acc D H' ⟨p4, p5⟩ (fresh_back e1 p1) (e1.trans p2) p3
end
end WP
namespace WP
open PySem PySem.Spec PyProof.Rows L2 Evl
open SX (S S_len S_cat S_inj S_tl)
/-! ### mirrors and promises -/
def azs : List Nat := [97, 98, 99, 100, 101, 102, 103, 104, 105, 106, 107, 108, 109, 110, 111, 112, 113, 114, 115, 116, 117, 118, 119, 120, 121, 122]
def bmE : List Value := [.type "ValueError", .type "Exception", .type "BaseException", .type "object"]
/-- a text of letters -/
def Az (l : List Nat) : Prop := ∀ c ∈ l, c ∈ azs
/-- a word -/
def Wd (l : List Nat) : Prop := l.length ≤ 100 ∧ Az l
theorem azs_lt {c : Nat} (h : c ∈ azs) : c < 1000 := by
  have : ∀ c ∈ azs, c < 1000 := by decide
  exact this c h
theorem Az.cps {l : List Nat} (h : Az l) : Cps l := fun c hc => azs_lt (h c hc)
theorem Az.nil : Az [] := fun c h => by cases h
theorem Az.app {a b : List Nat} (h : Az a) (g : Az b) : Az (a ++ b) := fun c hc => (List.mem_append.mp hc).elim (h c) (g c)
theorem Az.cut {l : List Nat} {lo hi : Option Int} (h : Az l) : Az (cut l lo hi) := fun c hc => h c (cut_mem hc)
theorem Az.one {c : Nat} (h : c ∈ azs) : Az [c] := fun d hd => by
  rw [List.mem_singleton.mp hd]
  exact h
/-- is_text -/
def isText (v : V) : Bool := match v with
  | .str z => decide (z.length ≤ 100) && z.cps.toList.all (fun c => azs.contains c)
  | _ => false
theorem isText_S {l : List Nat} : isText (.str (S l)) = (decide (l.length ≤ 100) && l.all (fun c => azs.contains c)) := by
  show (decide ((S l).length ≤ 100) && (S l).cps.toList.all (fun c => azs.contains c)) = _
  rw [S_len]
theorem isText_wd {l : List Nat} (h : Wd l) : isText (.str (S l)) = true := by
  rw [isText_S, Bool.and_eq_true, decide_eq_true_eq, List.all_eq_true]
  exact ⟨h.1, fun c hc => List.contains_iff_mem.mpr (h.2 c hc)⟩
theorem text_wd {H : Hp} {v : V} {n : String} (h : Thing H v n) (e : isText v = true) : ∃ l, v = .str (S l) ∧ Wd l := by
  cases h with
  | str l hl =>
    rw [isText_S, Bool.and_eq_true, decide_eq_true_eq, List.all_eq_true] at e
    exact ⟨l, rfl, e.1, fun c hc => List.contains_iff_mem.mp (e.2 c hc)⟩
  | _ => cases e
def sp_is_text : Sp := fun vs H Q _ => ∃ v n, vs = [v] ∧ Thing H v n ∧ RetV (.bl (isText v)) H Q
def sp_check (C : Addr) : Sp := fun vs H Q E => ∃ v n, vs = [v] ∧ Thing H v n ∧ (isText v = true → RetV .non H Q) ∧ (isText v = false → ∀ H2, Ex H H2 → E (.ref C) none H2)
/-- places -/
def placesF (w t : List Nat) : List Nat := (List.range (w.length + 1 - t.length)).filter fun p => decide ((w.drop p).take t.length = t)
def sp_places_of : Sp := fun vs H Q _ => ∃ w t : List Nat, vs = [.str (S w), .str (S t)] ∧ w.length ≤ 1000 ∧ t.length ≤ 1000 ∧ RetL ((placesF w t).map vN) H Q
/-- a door of a word and a text -/
def sp_places (C1 C2 : Addr) : Sp := fun vs H Q E => ∃ v1 n1 v2 n2, vs = [v1, v2] ∧ Thing H v1 n1 ∧ Thing H v2 n2 ∧
  (isText v1 = false → ∀ H2, Ex H H2 → E (.ref C1) none H2) ∧ (isText v1 = true → isText v2 = false → ∀ H2, Ex H H2 → E (.ref C2) none H2) ∧
  (∀ w t, v1 = .str (S w) → v2 = .str (S t) → Wd w → Wd t → RetL ((placesF w t).map vN) H Q)
/-! the law's own helpers -/
def cellAt (ns : List Int) (k : Nat) : Int := ns.getD k 0
def sp_cell (K : PySem.W.Frag) : Sp := fun vs H Q _ => ∃ (a : Addr) (ns : List Int) (k : Nat), vs = [.ref a, .int (k : Int)] ∧ SqL K H a (ns.map V.int) ∧ RetV (.int (cellAt ns k)) H Q
def primes : List Int := [1000003, 1000033, 1000037, 1000039, 1000081, 1000099, 1000117, 1000121, 1000133, 1000151, 1000159, 1000171, 1000183, 1000187, 1000193, 1000199]
def drawF (c : Int) (k : Nat) (m : Int) : Int := (c * 48271 + (k : Int) * 69621) % (primes.getD (k % 16) 1) % m
def sp_draw : Sp := fun vs H Q _ => ∃ (c : Int) (k : Nat) (m : Int), vs = [.int c, .int (k : Int), .int m] ∧ Lim 5000000 c ∧ k ≤ 1000000 ∧ 0 < m ∧ RetV (.int (drawF c k m)) H Q
def sp_number : Sp := fun vs H Q _ => ∃ (c : Int) (k : Nat) (m : Int), vs = [.int c, .int (k : Int), .int m] ∧ Lim 1048577 c ∧ k ≤ 1000 ∧ 0 < m ∧ (∀ r, 0 ≤ r → r < m → RetV (.int r) H Q)
def lsets : List (List Nat) := [[97, 98], [97, 98, 99], azs, [109, 122], [107]]
def lettersF (c : Int) : List Nat := lsets.getD (drawF c 6 5).toNat []
def sp_letters (K : PySem.W.Frag) : Sp := fun vs H Q _ => ∃ (a : Addr) (ns : List Int) (b : Nat), vs = [.ref a, .int (b : Int)] ∧ SqL K H a (ns.map V.int) ∧ (∀ z ∈ ns, Lim 1048577 z) ∧ b ≤ 100 ∧ RetV (vS (lettersF (cellAt ns 0 + b))) H Q
def sp_word (K : PySem.W.Frag) : Sp := fun vs H Q _ => ∃ (a : Addr) (ns : List Int) (b : Nat), vs = [.ref a, .int (b : Int)] ∧ SqL K H a (ns.map V.int) ∧ (∀ z ∈ ns, Lim 1048577 z) ∧ ns.length ≤ 63 ∧ b ≤ 100 ∧
  ∀ w : List Nat, w.length ≤ 100 → (∀ c ∈ w, c ∈ lettersF (cellAt ns 0 + b)) → RetV (vS w) H Q
def sp_whole : Sp := fun vs H Q _ => ∃ v n, vs = [v] ∧ Thing H v n ∧ RetV (.bl (n == "int")) H Q
theorem cell_lim {ns : List Int} {k : Nat} (h : ∀ z ∈ ns, Lim 1048577 z) : Lim 1048577 (cellAt ns k) := by
  unfold cellAt
  rw [List.getD_eq_getElem?_getD]
  cases e : ns[k]? with
  | none => exact (Lim.small (by decide) (by decide)).mono (by decide)
  | some z => exact h z (List.mem_of_getElem? e)
theorem draw_lo {c : Int} {k : Nat} {m : Int} (h : 0 < m) : 0 ≤ drawF c k m := Int.emod_nonneg _ (by omega)
theorem draw_hi {c : Int} {k : Nat} {m : Int} (h : 0 < m) : drawF c k m < m := Int.emod_lt_of_pos _ h
theorem lsets_az : ∀ l ∈ lsets, Az l := by
  unfold Az
  decide
theorem letters_mem (c : Int) : lettersF c ∈ lsets := by
  unfold lettersF
  have h1 := draw_lo (c := c) (k := 6) (m := 5) (by decide)
  have h2 := draw_hi (c := c) (k := 6) (m := 5) (by decide)
  have h3 : (drawF c 6 5).toNat < lsets.length := by
    show (drawF c 6 5).toNat < 5
    omega
  rw [List.getD_eq_getElem?_getD, List.getElem?_eq_getElem h3]
  exact List.getElem_mem h3
theorem letters_az (c : Int) : Az (lettersF c) := lsets_az _ (letters_mem c)
theorem letters_ne (c : Int) : 0 < (lettersF c).length ∧ (lettersF c).length ≤ 26 := by
  have : ∀ l ∈ lsets, 0 < l.length ∧ l.length ≤ 26 := by decide
  exact this _ (letters_mem c)
theorem primes_pos : ∀ k : Nat, 0 < primes.getD (k % 16) 1 := by
  intro k
  have h : ∀ i : Nat, i < 16 → 0 < primes.getD i 1 := by decide
  exact h _ (Nat.mod_lt _ (by decide))
theorem atI_getD {α : Type} {l : List α} {i : Nat} {d : α} (h : i < l.length) : atI l (i : Int) = some (l.getD i d) := by
  rw [atI_nat (j := i) (List.getElem?_eq_getElem h), List.getD_eq_getElem?_getD, List.getElem?_eq_getElem h]
  rfl
/-! ### texts of some letters, of so many at the most -/
def Gd (ls : List Nat) (n : Nat) (l : List Nat) : Prop := l.length ≤ n ∧ ∀ c ∈ l, c ∈ ls
section
variable {ls l m : List Nat} {n k : Nat}
theorem Gd.mono (h : Gd ls n l) (g : n ≤ k) : Gd ls k l := ⟨Nat.le_trans h.1 g, h.2⟩
theorem Gd.cut {lo hi : Option Int} (h : Gd ls n l) : Gd ls n (cut l lo hi) := ⟨Nat.le_trans (cut_len _ _ _) h.1, fun c hc => h.2 c (cut_mem hc)⟩
theorem Gd.app (h : Gd ls n l) (g : Gd ls k m) : Gd ls (n + k) (l ++ m) := ⟨by rw [List.length_append]; exact Nat.add_le_add h.1 g.1, fun c hc => (List.mem_append.mp hc).elim (h.2 c) (g.2 c)⟩
theorem Gd.rep (h : Gd ls n l) (k : Nat) : Gd ls (k * n) ((List.replicate k l).flatten) := by
  refine ⟨?_, fun c hc => ?_⟩
  · have : ((List.replicate k l).flatten).length = k * l.length := by simp
    rw [this]
    exact Nat.mul_le_mul_left _ h.1
  · obtain ⟨x, hx, hc⟩ := List.mem_flatten.mp hc
    rw [List.eq_of_mem_replicate hx] at hc
    exact h.2 c hc
theorem Gd.to (h : Gd ls n l) {i : Int} (h0 : 0 ≤ i) (hi : i ≤ k) : Gd ls k (WP.cut l none (some i)) := by
  obtain ⟨j, rfl⟩ := Int.eq_ofNat_of_zero_le h0
  rw [cut_to]
  refine ⟨?_, fun c hc => h.2 c (List.mem_of_mem_take hc)⟩
  rw [List.length_take]
  omega
end
theorem at_mem {l : List Nat} {i : Int} (h0 : 0 ≤ i) (h1 : i < l.length) : ∃ c, atI l i = some c ∧ c ∈ l := by
  obtain ⟨j, rfl⟩ := Int.eq_ofNat_of_zero_le h0
  have hj : j < l.length := by
    have : ((j : Nat) : Int) < l.length := h1
    omega
  refine ⟨l[j], atI_nat (List.getElem?_eq_getElem hj), List.getElem_mem hj⟩
/-- sep.join, the empty sep, of texts of one sign each -/
theorem join_ones : ∀ (ys : List (List Nat)), TL.joinL [] ys = ys.flatten
  | [] => rfl
  | [y] => by simp [TL.joinL]
  | y :: z :: r => by
    rw [TL.joinL, join_ones (z :: r)]
    simp
theorem eq_join {K : PySem.W.Frag} {σ : L2.St} {H : Hp} {te : TE} {ls : List Nat} {n : Nat} (hn : n ≤ 1000) (h : EvLQ te σ H (fun ys => ys.length = n ∧ ∀ (k : Nat) (y : V), ys[k]? = some y → ∃ c, y = vS [c] ∧ c ∈ ls)) :
    EvQ (tBM K "str" (fun x xs H Q => ∃ a p, ∃ ys : List Str, x = .str a ∧ xs = [.ref p] ∧ (SqL K H p (ys.map V.str) ∨ SqT K H p (ys.map V.str)) ∧ (ys.map (·.length)).sum + ys.length * a.length ≤ 16777216 ∧ Q (.str (Txt.join a ys)) H) (tC (.str "")) (tCons te tNil)) σ H (fun v => ∃ l, v = vS l ∧ Gd ls n l) := fun H1 e Q q => by
  refine ⟨rfl, h H1 e _ fun ys p H2 hP hp ex2 h2 => ?_⟩
  obtain ⟨hl, hy⟩ := hP
  have key : ∀ ys : List V, (∀ (k : Nat) (y : V), ys[k]? = some y → ∃ c, y = vS [c] ∧ c ∈ ls) → ∃ cs : List Nat, cs.length = ys.length ∧ (∀ c ∈ cs, c ∈ ls) ∧ ys = (cs.map fun c => S [c]).map V.str := by
    intro ys
    induction ys with
    | nil => intro _; exact ⟨[], rfl, fun c h => (by cases h), rfl⟩
    | cons y r ih =>
      intro h
      obtain ⟨cs, h1, h2, h3⟩ := ih fun k z hk => h (k + 1) z hk
      obtain ⟨c, h4, h5⟩ := h 0 y rfl
      refine ⟨c :: cs, by simp [h1], fun d hd => ?_, by rw [h4, h3]; rfl⟩
      rcases List.mem_cons.mp hd with e | e
      · rw [e]; exact h5
      · exact h2 d e
  obtain ⟨cs, h1, h2', h3⟩ := key ys hy
  refine ⟨"", p, cs.map fun c => S [c], rfl, rfl, .inl (.inl (.inl (by rw [← h3]; exact h2))), ?_, ?_⟩
  · have e1 : ((cs.map fun c => S [c]).map (·.length)).sum = cs.length := by
      clear h1 h2' h3
      induction cs with
      | nil => rfl
      | cons c r ih => simp only [List.map_cons, List.sum_cons, ih, List.length_cons, S_len]; simp; omega
    rw [e1]
    have : ((PySem.Str.ofString "") : Str).length = 0 := by decide
    have e2 : (cs.map fun c => S [c]).length = cs.length := by simp
    rw [e2]
    show cs.length + cs.length * ((PySem.Str.ofString "") : Str).length ≤ _
    rw [this]
    omega
  · have e1 : (cs.map fun c => S [c]) = (cs.map fun c => [c]).map S := by simp
    have e2 : Txt.join (PySem.Str.ofString "") (cs.map fun c => S [c]) = S cs := by
      rw [e1, show (PySem.Str.ofString "" : Str) = S [] by decide, SX.join_S, join_ones]
      congr 1
      clear h1 h2' h3 e1
      induction cs with
      | nil => rfl
      | cons c r ih => simp [ih]
    show Q (.str (Txt.join (PySem.Str.ofString "") (cs.map fun c => S [c]))) H2
    rw [e2]
    exact q _ H2 ⟨cs, rfl, by omega, h2'⟩ ex2
/-- the law's own promise -/
def sp_law (K : PySem.W.Frag) : Sp := fun vs H Q _ => ∃ (a : Addr) (ns : List Int), vs = [.ref a] ∧ SqL K H a (ns.map V.int) ∧ ns.length ≤ 63 ∧ (∀ z ∈ ns, Lim 1048577 z) ∧ ∀ H', Q (.bl true) H'
/-- all places, looked at one by one -/
theorem places_all (w t : List Nat) : (List.range (w.length + 1)).filter (fun p => decide ((w.drop p).take t.length = t)) = placesF w t := by
  unfold placesF
  by_cases h : t.length ≤ w.length + 1
  · have e : w.length + 1 = (w.length + 1 - t.length) + t.length := by omega
    conv => lhs; rw [e, List.range_add, List.filter_append]
    rw [show List.filter (fun p => decide ((w.drop p).take t.length = t)) ((List.range t.length).map (fun x => w.length + 1 - t.length + x)) = [] from ?_, List.append_nil]
    refine List.filter_eq_nil_iff.mpr fun x hx => ?_
    obtain ⟨y, hy, rfl⟩ := List.mem_map.mp hx
    have hy' := List.mem_range.mp hy
    intro q
    have q' := of_decide_eq_true q
    have := congrArg List.length q'
    rw [List.length_take, List.length_drop] at this
    omega
  · rw [show w.length + 1 - t.length = 0 by omega]
    refine List.filter_eq_nil_iff.mpr fun x hx => ?_
    intro q
    have q' := of_decide_eq_true q
    have := congrArg List.length q'
    rw [List.length_take, List.length_drop] at this
    omega
/-! ### what the top has left -/
abbrev KOf {K : PySem.W.Frag} {h : Heap} (_ : K.In h) : PySem.W.Frag := K
structure Dn (K : PySem.W.Frag) (mg : Str → Option Value) (x : Str) (st : Stmt) : Prop where
  ex : ∃ (f : Addr) (fd : FuncData), mg x = some (.ref f) ∧ Fun K x x st f fd
theorem dn_mk {K : PySem.W.Frag} {h : Heap} {mg : Str → Option Value} {x : Str} {st : Stmt} {f : Addr} {oc : Value} {od an : Option Addr} {osl : Array (Option Value)} {kV doc pm cdv ct : Value} (X : K.In h) (G : h.Ns mainGlobals mg)
    (a : PySem.W.nsIn K mainGlobals x = some (some (.ref f))) (l : K.lookup f = some ⟨oc, od, .func (PySem.W.fnOf x x (defArgs st) (defBody st) (defScope st) .none kV doc pm an cdv ct), osl⟩) (c : PySem.W.codeIn K cdv x = true) (k : PySem.W.keepIn K (.ref f) = true) : Dn K mg x st :=
  ⟨f, _, PySem.W.mg_of X G a, fun_mk l c k⟩
theorem gi_mk {K : PySem.W.Frag} {h : Heap} {mg : Str → Option Value} {x : Str} {i : Int} {t : Tok} (X : K.In h) (G : h.Ns mainGlobals mg) (a : PySem.W.nsIn K mainGlobals x = some (some (.int i t))) : ∃ u, mg x = some u ∧ RelV (.int i) u := ⟨_, PySem.W.mg_of X G a, ⟨t, rfl⟩⟩
theorem gs_mk {K : PySem.W.Frag} {h : Heap} {mg : Str → Option Value} {x z : Str} {t : Tok} (X : K.In h) (G : h.Ns mainGlobals mg) (a : PySem.W.nsIn K mainGlobals x = some (some (.str z t))) : ∃ u, mg x = some u ∧ RelV (.str z) u := ⟨_, PySem.W.mg_of X G a, ⟨t, rfl⟩⟩
theorem er_mk {K : PySem.W.Frag} {h : Heap} {mg : Str → Option Value} {x : Str} {C : Addr} (X : K.In h) (G : h.Ns mainGlobals mg) (a : PySem.W.nsIn K mainGlobals x = some (some (.ref C))) (x1 : PySem.W.excIn K C bmE "ValueError.__new__" = true) (k : PySem.W.keepIn K (.ref C) = true)
    (b : PySem.W.subIn K (.ref C) (.type "BaseException") = some true) (t : PySem.W.typeIn K (.ref C) = some (.type "type")) : Er K mg x C bmE := ⟨PySem.W.mg_of X G a, x1, k, b, t⟩
theorem cal_mk {P : Program} {w : World} {K : PySem.W.Frag} {mg : Str → Option Value} {base : Heap} {k : Nat} {x : Str} {st : Stmt} {ps : List Str} {sp : Sp} (D : Dn K mg x st) (ok : ∀ f fd, Fun K x x st f fd → FnOk P w K mg base (L2.CX P w) k f fd ps sp)
    (b : ∀ (kV doc pm : Value) (an : Option Addr) (cdv ct : Value) (us : List Value), us.length = ps.length → bindArgs (PySem.W.fnOf x x (defArgs st) (defBody st) (defScope st) .none kV doc pm an cdv ct) ⟨us, []⟩ = pure (ps.zip us)) : Cal P w K mg base k x ps sp := by
  obtain ⟨f, fd, g, F⟩ := D.ex
  exact ⟨f, fd, ok f fd F, g, F.kp, F.binds b⟩
theorem cx_no {P : Program} {w : World} {H : Hp} {s : Shared} {e : Value} {s' : Shared} (h : L2.CX P w [] H s (fun _ _ _ => False) e s') : False := by
  obtain ⟨_, _, _, _, _, _, _, _, _, _, _, _, z⟩ := h
  exact z
end WP
namespace WP
open PySem PySem.Spec PyProof.Rows L2 Evl
open SX (S S_len S_cat S_inj S_tl)
/-! ### a text in a text -/
/-- whether t stands in w -/
def inF (t w : List Nat) : Bool := !(placesF w t).isEmpty
theorem mem_places {w t : List Nat} {i : Nat} : i ∈ placesF w t ↔ i + t.length ≤ w.length ∧ (w.drop i).take t.length = t := by
  unfold placesF
  rw [List.mem_filter, List.mem_range, decide_eq_true_eq]
  constructor
  · intro h
    exact ⟨by omega, h.2⟩
  · intro h
    exact ⟨by omega, h.2⟩
theorem inF_iff {t w : List Nat} : inF t w = true ↔ t <:+: w := by
  unfold inF
  rw [Bool.not_eq_true', List.isEmpty_eq_false_iff_exists_mem]
  constructor
  · rintro ⟨i, hi⟩
    obtain ⟨h1, h2⟩ := mem_places.mp hi
    refine ⟨w.take i, (w.drop i).drop t.length, ?_⟩
    conv => lhs; rw [← h2]
    rw [List.length_take, List.length_drop, Nat.min_eq_left (by omega), List.append_assoc, List.take_append_drop, List.take_append_drop]
  · rintro ⟨a, b, e⟩
    refine ⟨a.length, mem_places.mpr ⟨?_, ?_⟩⟩
    · rw [← e]
      simp
    · rw [← e, List.append_assoc, List.drop_left, List.take_left]
theorem forIn_full {s sub : Str} {hi : Nat} : ∀ (l : List Nat) (st : Array Nat × Nat), 1 ≤ st.fst.size → (forIn l st (StrLaws.occBody s sub hi 1)).run.fst = st.fst
  | [], st, _ => rfl
  | a :: l, st, h => by
    rw [List.forIn_cons]
    unfold StrLaws.occBody
    rw [if_neg (fun q => by have := q.1.1.1; omega)]
    exact forIn_full l st h
theorem forIn_first {s sub : Str} {hi : Nat} : ∀ (l : List Nat) (free : Nat), (∀ i ∈ l, free ≤ i) →
    (forIn l ((#[] : Array Nat), free) (StrLaws.occBody s sub hi 1)).run.fst.toList = (l.filter fun i => decide (i + sub.length ≤ hi ∧ Builtin.Str.subAt s sub i = true)).take 1
  | [], _, _ => rfl
  | a :: l, free, hf => by
    rw [List.forIn_cons]
    unfold StrLaws.occBody
    have ha : free ≤ a := hf a List.mem_cons_self
    by_cases hc : a + sub.length ≤ hi ∧ Builtin.Str.subAt s sub a = true
    · rw [if_pos ⟨⟨⟨by simp, ha⟩, hc.1⟩, hc.2⟩, List.filter_cons, if_pos (decide_eq_true hc)]
      show (forIn l ((#[] : Array Nat).push a, a + sub.length) (StrLaws.occBody s sub hi 1)).run.fst.toList = _
      rw [forIn_full _ _ (by simp)]
      simp
    · rw [if_neg (fun q => hc ⟨q.1.2, q.2⟩), List.filter_cons, if_neg (by rw [decide_eq_true_eq]; exact hc)]
      exact forIn_first l free fun i hi' => hf i (List.mem_cons_of_mem _ hi')
theorem occ_places (w t : List Nat) : Builtin.Str.occurrences (S w) (S t) 0 (S w).length 1 = (placesF w t).take 1 := by
  rw [StrLaws.occ_eq, forIn_first _ _ (fun _ _ => Nat.zero_le _)]
  congr 1
  have e : ∀ i, decide (i + (S t).length ≤ (S w).length ∧ Builtin.Str.subAt (S w) (S t) i = true) = decide ((w.drop i).take t.length = t ∧ i + t.length ≤ w.length) := fun i => by
    rw [S_len, S_len, StrLaws.subAt_eq, S_len]
    apply decide_eq_decide.mpr
    rw [beq_iff_eq]
    exact ⟨fun h => ⟨h.2, h.1⟩, fun h => ⟨h.2, h.1⟩⟩
  rw [S_len, Nat.sub_zero, ← List.range_eq_range', ← places_all w t]
  refine List.filter_congr fun i hi => ?_
  have e2 := e i
  rw [S_len] at e2
  rw [e2]
  apply decide_eq_decide.mpr
  constructor
  · exact fun h => h.1
  · intro h
    refine ⟨h, ?_⟩
    have := congrArg List.length h
    rw [List.length_take, List.length_drop] at this
    have h2 := List.mem_range.mp hi
    rw [S_len] at h2
    omega
theorem occ_in (w t : List Nat) : (!(Builtin.Str.occurrences (S w) (S t) 0 (S w).length 1).isEmpty) = inF t w := by
  rw [occ_places]
  unfold inF
  cases placesF w t <;> rfl
theorem find_S (w t : List Nat) : Txt.find (S w) (S t) = match placesF w t with | i :: _ => (i : Int) | [] => -1 := by
  unfold Txt.find
  rw [occ_places]
  cases placesF w t <;> rfl
section
variable {K : PySem.W.Frag} {σ : L2.St} {H H' : Hp} {ta tb te tx : TE} {t u : TT} {x y z v : V} {r : R2}
theorem rv_in {a b : List Nat} : RV (fun x y H Q => ∃ i j, x = .str i ∧ y = .str j ∧ Q (.bl (!(Builtin.Str.occurrences j i 0 j.length 1).isEmpty)) H) (.str (S a)) (.str (S b)) H (.bl (inF a b)) := by
  rw [← occ_in]
  exact rv_str2' (f := fun i j => .bl (!(Builtin.Str.occurrences j i 0 j.length 1).isEmpty))
theorem rv_nin {a b : List Nat} : RV (fun x y H Q => ∃ i j, x = .str i ∧ y = .str j ∧ Q (.bl (!(!(Builtin.Str.occurrences j i 0 j.length 1).isEmpty))) H) (.str (S a)) (.str (S b)) H (.bl (!inF a b)) := by
  rw [← occ_in]
  exact rv_str2' (f := fun i j => .bl (!(!(Builtin.Str.occurrences j i 0 j.length 1).isEmpty)))
/-! ### a < b <= c -/
theorem ev_chain2 {r r' : R2} {b1 b2 : Bool} {z : V} (ha : Ev ta σ H x) (hb : Ev tb σ H y) (h1 : RV r x y H (.bl b1)) (hc : Ev tx σ H z) (h2 : RV r' y z H (.bl b2)) : Ev (tChain r r' ta tb tx) σ H (.bl (b1 && b2)) := fun H1 e Q q =>
  ha H1 e _ fun H2 e2 => hb H2 (e.trans e2) _ fun H3 e3 => h1 H3 ((e.trans e2).trans e3) _ fun H4 e4 => ⟨b1, rfl, by
    have x4 := ((e.trans e2).trans e3).trans e4
    have y4 := (e2.trans e3).trans e4
    cases b1 with
    | true =>
      rw [if_pos rfl]
      exact hc H4 x4 _ fun H5 e5 => h2 H5 (x4.trans e5) Q fun H6 e6 => q H6 ((y4.trans e5).trans e6)
    | false =>
      rw [if_neg Bool.false_ne_true]
      exact q H4 y4⟩
end
/-! ### own classes -/
/-- the method m of the class at C keeps the promise -/
structure CalM (P : Program) (w : World) (K : PySem.W.Frag) (mg : Str → Option Value) (base : Heap) (k : Nat) (C : Addr) (m : Str) (ps : List Str) (sp : Sp) : Prop where
  ex : ∃ (f : Addr) (fd : FuncData), FnOk P w K mg base (L2.CX P w) k f fd ps sp ∧ Meth K C m f ∧ Binds K fd ps []
structure CalI (P : Program) (w : World) (K : PySem.W.Frag) (mg : Str → Option Value) (base : Heap) (k : Nat) (x : Str) (C : Addr) (ps : List Str) (sp : Sp) : Prop where
  ex : ∃ (f : Addr) (fd : FuncData), FnOk P w K mg base (L2.CX P w) k f fd ps sp ∧ Mk K C f ∧ Binds K fd ps []
  g : mg x = some (.ref C)
theorem pe_calM {X : Cx} {k : Nat} {C : Addr} {ps : List Str} {sp : Sp} {E : XK} {m : Str} {apos pos : Pos} {o e : Expr} {es : List Expr} {ta : TE} {t : TA} {pl : Sem Bool} (he : PE X o ta) (c : Cls X.K C) (M : CalM X.prog X.w X.K X.mg X.base k C m ps sp) (hr : Room k X.A) (hx : Passes (L2.CX X.prog X.w) X E) (ha : PA X (e :: es) t)
    (hst : starEach (e :: es) X.env = (false, eval e X.env) :: starEach es X.env := by rfl) (hpl : (backTo pos (starEach es X.env)).any (·.1) = false := by rfl)
    (ht : eval (.Call (.Attribute o m apos) (e :: es) [] pos) X.env = (do
      let ov ← eval o X.env
      standAt apos.atName
      let (f, first) ← holding [ov] (getMethod ov m pl)
      callWith pos f first (backTo pos (starEach (e :: es) X.env)) (backToKw pos (keywordEach [] X.env))) := by rfl) :
    PE X (.Call (.Attribute o m apos) (e :: es) [] pos) (tMeth C m sp [] E ta t) := by
  obtain ⟨f, fd, F, hm, hb⟩ := M.ex
  exact pe_meth he c hm F hr hb .nil hx ha hst hpl ht
theorem pe_calI {X : Cx} {k : Nat} {C : Addr} {ps : List Str} {sp : Sp} {E : XK} {x : Str} {p pos : Pos} {e : Expr} {es : List Expr} {t : TA} (M : CalI X.prog X.w X.K X.mg X.base k x C ps sp) (hr : Room (k + 1) X.A) (hg : Gl X x) (hx : Passes (L2.CX X.prog X.w) X E) (ha : PA X (e :: es) t)
    (hdb : (x == ("__debug__" : Str)) = false := by decide) (he : starEach (e :: es) X.env = (false, eval e X.env) :: starEach es X.env := by rfl) (hpl : (backTo pos (starEach es X.env)).any (·.1) = false := by rfl) :
    PE X (.Call (.Name x p) (e :: es) [] pos) (tMake C sp [] E t) := by
  obtain ⟨f, fd, F, hm, hb⟩ := M.ex
  exact pe_make hm F hr hg M.g hb .nil hx ha hdb he hpl
/-- one of two readings -/
theorem pe_either {X : Cx} {e : Expr} {t u : TE} (h1 : PE X e t) (h2 : PE X e u) : PE X e (fun σ H Q => t σ H Q ∨ u σ H Q) := ⟨fun pins s σ H Q I h => h.elim (h1.run pins s σ H Q I) (h2.run pins s σ H Q I)⟩
/-- what the top says of a class C: its place, the names that it hasn't -/
structure Kl (K : PySem.W.Frag) (mg : Str → Option Value) (x : Str) (C : Addr) (nf : List Str) : Prop where
  cl : Cls K C
  g : mg x = some (.ref C)
  nF : ∀ f ∈ nf, NoAttr K C f
  ha : PySem.W.findIn K (.ref C) "__class__" = some (some (.builtin "object.__class__"))
  hn : PySem.W.specialIn K (.builtin "object.__class__") "__get__" = some (some (.builtin "getset_descriptor.__get__"))
  htk : PySem.W.takesIn K (.builtin "object.__class__") = some true
  hm : PySem.W.mroIn K C (.type "object") = some true
section
variable {K : PySem.W.Frag} {σ : L2.St} {H H' : Hp} {ta tb te tx : TE} {x y z v : V}
/-- a new instance of the class at C with the fields fs -/
def EvI (te : TE) (σ : L2.St) (H : Hp) (C : Addr) (fs : List (Str × V)) : Prop := ∀ H1, Ex H H1 → ∀ Q : VK, (∀ p dx H2, H1 p = none → Ex H1 H2 → H2 p = some (.ins C dx fs) → Q (.ref p) H2) → te σ H1 Q
theorem ev_fld {p C dx : Addr} {fs : List (Str × V)} {f : Str} (h : Ev ta σ H (.ref p)) (hp : H p = some (.ins C dx fs)) (cl : Cls K C) (n : NoAttr K C f) (l : fs.lookup f = some v) : Ev (tFld K ta f) σ H v := fun H1 e Q q =>
  h H1 e _ fun H2 e2 => ⟨p, C, dx, fs, v, rfl, (e.trans e2) _ _ hp, cl, n, l, q H2 e2⟩
theorem ev_meth {p C dx : Addr} {fs : List (Str × V)} {m : Str} {sp : Sp} {E : XK} {t : TA} {vs : List V} (h : Ev ta σ H (.ref p)) (hp : H p = some (.ins C dx fs)) (l : fs.lookup m = none) (ha : EvA t σ H vs) (hs : SpV sp (.ref p :: vs) H z) : Ev (tMeth C m sp [] E ta t) σ H z := fun H1 e Q q =>
  h H1 e _ fun H2 e2 => ⟨p, dx, fs, rfl, (e.trans e2) _ _ hp, l, ha H2 (e.trans e2) _ fun H3 e3 => by
    rw [List.append_nil]
    exact hs H3 ((e.trans e2).trans e3) Q (fun H4 e4 => q H4 ((e2.trans e3).trans e4)) E⟩
/-- an __init__'s promise: the fields of a new instance -/
def sp_init (C : Addr) (n : Nat) (fs : List V → List (Str × V)) : Sp := fun vs H Q _ => ∃ (x dx : Addr) (us : List V), vs = .ref x :: us ∧ us.length = n ∧ H x = some (.ins C dx []) ∧ ∀ H2, (∀ b o, b ≠ x → H b = some o → H2 b = some o) → H2 x = some (.ins C dx (fs us)) → Q .non H2
theorem ei_make {C : Addr} {E : XK} {t : TA} {vs : List V} {n : Nat} {fs : List V → List (Str × V)} (ha : EvA t σ H vs) (hn : vs.length = n) : EvI (tMake C (sp_init C n fs) [] E t) σ H C (fs vs) := fun H1 e Q q =>
  ha H1 e _ fun H2 e2 x dx nx ndx ne => ⟨x, dx, vs, by rw [List.append_nil], hn, upd_same, fun H3 k hx => ⟨rfl, q x dx H3 (fresh_back e2 nx) (fun b o hb => k b o (ne_of_none (e2 b o hb) nx) (by rw [upd_ne (ne_of_none (e2 b o hb) nx), upd_ne (ne_of_none (e2 b o hb) ndx)]; exact e2 b o hb)) hx⟩⟩
end
/-! ### numbers; answers -/
def isNum (v : V) : Bool := match v with
  | .int i => decide (0 ≤ i)
  | _ => false
theorem isNum_int (i : Int) : isNum (.int i) = decide (0 ≤ i) := rfl
def sp_is_number : Sp := fun vs H Q _ => ∃ v n, vs = [v] ∧ Thing H v n ∧ RetV (.bl (isNum v)) H Q
def pieceShows (i : Int) (w t : List Nat) : Bool := decide (0 ≤ i) && decide (i.toNat ∈ placesF w t)
def missShows (b e : Int) (w t : List Nat) : Bool := decide (0 ≤ b) && decide (0 ≤ e) && (decide (b < e) && decide (e ≤ t.length)) &&
  (!inF (cut t (some b) (some e)) w && (inF (cut (cut t (some b) (some e)) (some 1) none) w && inF (cut (cut t (some b) (some e)) none (some (-1))) w))
def sp_pshows (C : Addr) : Sp := fun vs H Q _ => ∃ (x dx : Addr) (i : Int) (w t : List Nat), vs = [.ref x, vS w, vS t] ∧ H x = some (.ins C dx [("place", .int i)]) ∧ w.length ≤ 1000 ∧ t.length ≤ 1000 ∧ RetV (.bl (pieceShows i w t)) H Q
def sp_mshows (C : Addr) : Sp := fun vs H Q _ => ∃ (x dx : Addr) (b e : Int) (w t : List Nat), vs = [.ref x, vS w, vS t] ∧ H x = some (.ins C dx [("begin", .int b), ("end", .int e)]) ∧ w.length ≤ 1000 ∧ t.length ≤ 1000 ∧ RetV (.bl (missShows b e w t)) H Q
theorem inV_nat (i : Int) (ns : List Nat) : inV (.int i) (ns.map vN) = (decide (0 ≤ i) && decide (i.toNat ∈ ns)) := by
  unfold inV
  rw [Bool.eq_iff_iff, List.any_eq_true, Bool.and_eq_true, decide_eq_true_eq, decide_eq_true_eq]
  constructor
  · rintro ⟨y, hy, h⟩
    obtain ⟨n, hn, rfl⟩ := List.mem_map.mp hy
    have e : (n : Int) = i := by
      have h' : ((n : Int) == i) = true := h
      exact eq_of_beq h'
    subst e
    exact ⟨by omega, by rw [Int.toNat_natCast]; exact hn⟩
  · rintro ⟨h0, h⟩
    refine ⟨vN i.toNat, List.mem_map.mpr ⟨_, h, rfl⟩, ?_⟩
    show (((i.toNat : Nat) : Int) == i) = true
    rw [Int.toNat_of_nonneg h0]
    exact beq_self_eq_true _
def fsP : List V → List (Str × V)
  | [v] => [("place", v)]
  | _ => []
def fsM : List V → List (Str × V)
  | [b, e] => [("begin", b), ("end", e)]
  | _ => []
theorem len1 {us : List V} (h : us.length = 1) : ∃ v, us = [v] := by
  match us, h with
  | [v], _ => exact ⟨v, rfl⟩
theorem len2 {us : List V} (h : us.length = 2) : ∃ v u, us = [v, u] := by
  match us, h with
  | [v, u], _ => exact ⟨v, u, rfl⟩
theorem kl_mk {K : PySem.W.Frag} {h : Heap} {mg : Str → Option Value} {x : Str} {C : Addr} {f1 f2 f3 : Str} (X : K.In h) (G : h.Ns mainGlobals mg) (a : PySem.W.nsIn K mainGlobals x = some (some (.ref C)))
    (pg : PySem.W.plainGet K C Str.empty = true) (hd : PySem.W.hasDictIn K C = true) (po : PySem.W.plainOver K C = true) (sa : PySem.W.findIn K (.ref C) "__setattr__" = some (some (.builtin "object.__setattr__")))
    (n1 : PySem.W.findIn K (.ref C) f1 = some none) (n2 : PySem.W.findIn K (.ref C) f2 = some none) (n3 : PySem.W.findIn K (.ref C) f3 = some none)
    (ha : PySem.W.findIn K (.ref C) "__class__" = some (some (.builtin "object.__class__"))) (hn : PySem.W.specialIn K (.builtin "object.__class__") "__get__" = some (some (.builtin "getset_descriptor.__get__")))
    (htk : PySem.W.takesIn K (.builtin "object.__class__") = some true) (hm : PySem.W.mroIn K C (.type "object") = some true) : Kl K mg x C [f1, f2, f3] :=
  ⟨⟨pg, hd, po, sa⟩, PySem.W.mg_of X G a, fun f hf => by
    simp only [List.mem_cons, List.not_mem_nil, or_false] at hf
    rcases hf with rfl | rfl | rfl
    · exact n1
    · exact n2
    · exact n3, ha, hn, htk, hm⟩
structure DnM (K : PySem.W.Frag) (C : Addr) (m q : Str) (st : Stmt) : Prop where
  ex : ∃ (f : Addr) (fd : FuncData), PySem.W.findIn K (.ref C) m = some (some (.ref f)) ∧ PySem.W.isFn K (.ref f) = true ∧ Fun K m q st f fd
theorem dnm_mk {K : PySem.W.Frag} {C : Addr} {m q : Str} {st : Stmt} {f : Addr} {oc : Value} {od an : Option Addr} {osl : Array (Option Value)} {kV doc pm cdv ct : Value}
    (a : PySem.W.findIn K (.ref C) m = some (some (.ref f))) (i : PySem.W.isFn K (.ref f) = true) (l : K.lookup f = some ⟨oc, od, .func (PySem.W.fnOf m q (defArgs st) (defBody st) (defScope st) .none kV doc pm an cdv ct), osl⟩) (c : PySem.W.codeIn K cdv q = true) (k : PySem.W.keepIn K (.ref f) = true) : DnM K C m q st := ⟨f, _, a, i, fun_mk l c k⟩
theorem calm_mk {P : Program} {w : World} {K : PySem.W.Frag} {mg : Str → Option Value} {base : Heap} {k : Nat} {C : Addr} {m q : Str} {st : Stmt} {ps : List Str} {sp : Sp} (D : DnM K C m q st) (ok : ∀ f fd, Fun K m q st f fd → FnOk P w K mg base (L2.CX P w) k f fd ps sp)
    (b : ∀ (kV doc pm : Value) (an : Option Addr) (cdv ct : Value) (us : List Value), us.length = ps.length → bindArgs (PySem.W.fnOf m q (defArgs st) (defBody st) (defScope st) .none kV doc pm an cdv ct) ⟨us, []⟩ = pure (ps.zip us)) : CalM P w K mg base k C m ps sp := by
  obtain ⟨f, fd, g, i, F⟩ := D.ex
  exact ⟨f, fd, ok f fd F, ⟨g, i, F.kp⟩, F.binds b⟩
theorem cali_mk {P : Program} {w : World} {K : PySem.W.Frag} {mg : Str → Option Value} {base : Heap} {k : Nat} {C : Addr} {x q : Str} {st : Stmt} {ps : List Str} {sp : Sp} {nf : List Str} (k0 : Kl K mg x C nf) (mk : PySem.W.makesIn K C = true) (kc : PySem.W.keepIn K (.ref C) = true) (D : DnM K C "__init__" q st) (ok : ∀ f fd, Fun K "__init__" q st f fd → FnOk P w K mg base (L2.CX P w) k f fd ps sp)
    (b : ∀ (kV doc pm : Value) (an : Option Addr) (cdv ct : Value) (us : List Value), us.length = ps.length → bindArgs (PySem.W.fnOf "__init__" q (defArgs st) (defBody st) (defScope st) .none kV doc pm an cdv ct) ⟨us, []⟩ = pure (ps.zip us)) : CalI P w K mg base k x C ps sp := by
  obtain ⟨f, fd, g, i, F⟩ := D.ex
  exact ⟨⟨f, fd, ok f fd F, ⟨mk, g, i, kc⟩, F.binds b⟩, k0.g⟩
end WP
namespace WP
open PySem PySem.Spec PyProof.Rows L2 Evl
open SX (S S_len S_cat S_inj S_tl)
/-! ### three comparisons in a row -/
def tChain3 (r r' r'' : R2) (ta tb tc td : TE) : TE := fun σ H Q => ta σ H fun x H1 => tb σ H1 fun y H2 => r x y H2 fun z H3 => ∃ k, z = .bl k ∧
  (if k = true then tc σ H3 fun w' H4 => r' y w' H4 fun z' H5 => ∃ k', z' = .bl k' ∧ (if k' = true then td σ H5 fun v' H6 => r'' w' v' H6 Q else Q (.bl false) H5) else Q (.bl false) H3)
section
variable {X : Cx} {a b c d : Expr} {ta tb tc td : TE} {pos : Pos}
theorem pe_chain3 {op op' op'' : CmpOp} {r r' r'' : R2} (ho : OpR X (compareOp op) r) (ho' : OpR X (compareOp op') r') (ho'' : OpR X (compareOp op'') r'') (ha : PE X a ta) (hb : PE X b tb) (hc : PE X c tc) (hd : PE X d td)
    (hm : lastMarks [op, op', op''] [b, c, d] = false := by with_unfolding_all rfl) : PE X (.Compare a [op, op', op''] [b, c, d] pos) (tChain3 r r' r'' ta tb tc td) := by
  refine ⟨fun pins s σ H Q I h => ?_⟩
  refine Compare_chain (thn (ha.run pins s σ H _ I h) fun v s1 ⟨x, H1, I1, r1, q1⟩ => chain_link (thn (hb.run pins s1 σ H1 _ I1 q1) fun u s2 ⟨y, H2, I2, r2, q2⟩ =>
    thn (ho pins s2 σ H2 x y v u _ I2 r1 r2 q2) fun d1 s3 ⟨z, H3, I3, r3, k, e, q3⟩ => ?_)) hm
  subst e
  cases r3
  refine wpAny_truthy_bool ?_
  cases k with
  | false => exact ite_ff ⟨.bl false, H3, I3, rfl, q3⟩
  | true =>
    refine ite_tt (chain_link (thn (hc.run pins s3 σ H3 _ I3 q3) fun w' s4 ⟨z', H4, I4, r4, q4⟩ => thn (ho' pins s4 σ H4 y z' u w' _ I4 r2 r4 q4) fun d2 s5 ⟨z2, H5, I5, r5, k2, e2, q5⟩ => ?_))
    subst e2
    cases r5
    refine wpAny_truthy_bool ?_
    cases k2 with
    | false => exact ite_ff ⟨.bl false, H5, I5, rfl, q5⟩
    | true => exact ite_tt (chain_last (thn (hd.run pins s5 σ H5 _ I5 q5) fun v' s6 ⟨z3, H6, I6, r6, q6⟩ => ho'' pins s6 σ H6 z' z3 w' v' Q I6 r4 r6 q6))
theorem pt_chain3 {op op' op'' : CmpOp} {r r' r'' : R2} (ho : OpR X (compareOp op) r) (ho' : OpR X (compareOp op') r') (ho'' : OpR X (compareOp op'') r'') (ha : PE X a ta) (hb : PE X b tb) (hc : PE X c tc) (hd : PE X d td)
    (hm : lastMarks [op, op', op''] [b, c, d] = false := by with_unfolding_all rfl) : PT X (.Compare a [op, op', op''] [b, c, d] pos) (tTest (tChain3 r r' r'' ta tb tc td)) := by
  refine ⟨fun pins s σ H Q I h => ?_⟩
  refine isTrue_chain (thn (ha.run pins s σ H _ I h) fun v s1 ⟨x, H1, I1, r1, q1⟩ => test_link (thn (hb.run pins s1 σ H1 _ I1 q1) fun u s2 ⟨y, H2, I2, r2, q2⟩ =>
    thn (ho pins s2 σ H2 x y v u _ I2 r1 r2 q2) fun d1 s3 ⟨z, H3, I3, r3, k, e, q3⟩ => ?_)) hm
  subst e
  cases r3
  refine wpAny_truthy_bool ?_
  cases k with
  | false =>
    obtain ⟨k', e', q'⟩ := q3
    cases e'
    exact ite_ff ⟨H3, I3, q'⟩
  | true =>
    refine ite_tt (test_link (thn (hc.run pins s3 σ H3 _ I3 q3) fun w' s4 ⟨z', H4, I4, r4, q4⟩ => thn (ho' pins s4 σ H4 y z' u w' _ I4 r2 r4 q4) fun d2 s5 ⟨z2, H5, I5, r5, k2, e2, q5⟩ => ?_))
    subst e2
    cases r5
    refine wpAny_truthy_bool ?_
    cases k2 with
    | false =>
      obtain ⟨k', e', q'⟩ := q5
      cases e'
      exact ite_ff ⟨H5, I5, q'⟩
    | true =>
      refine ite_tt (test_last (thn (hd.run pins s5 σ H5 _ I5 q5) fun v' s6 ⟨z3, H6, I6, r6, q6⟩ => thn (ho'' pins s6 σ H6 z' z3 w' v' _ I6 r4 r6 q6) fun d3 s7 ⟨z4, H7, I7, r7, k3, e3, q7⟩ => ?_))
      subst e3
      cases r7
      exact wpAny_truthy_bool ⟨H7, I7, q7⟩
end
section
variable {K : PySem.W.Frag} {σ : L2.St} {H H' : Hp} {ta tb te tx tc td : TE} {t u : TT} {x y z v : V} {r r' r'' : R2}
theorem ev_chain3 {b1 b2 b3 : Bool} {z w' : V} (ha : Ev ta σ H x) (hb : Ev tb σ H y) (h1 : RV r x y H (.bl b1)) (hc : Ev tc σ H z) (h2 : RV r' y z H (.bl b2)) (hd : Ev td σ H w') (h3 : RV r'' z w' H (.bl b3)) : Ev (tChain3 r r' r'' ta tb tc td) σ H (.bl (b1 && (b2 && b3))) := fun H1 e Q q =>
  ha H1 e _ fun H2 e2 => hb H2 (e.trans e2) _ fun H3 e3 => h1 H3 ((e.trans e2).trans e3) _ fun H4 e4 => ⟨b1, rfl, by
    have x4 := ((e.trans e2).trans e3).trans e4
    have y4 := (e2.trans e3).trans e4
    cases b1 with
    | true =>
      rw [if_pos rfl]
      exact hc H4 x4 _ fun H5 e5 => h2 H5 (x4.trans e5) _ fun H6 e6 => ⟨b2, rfl, by
        have x6 := (x4.trans e5).trans e6
        have y6 := (y4.trans e5).trans e6
        cases b2 with
        | true =>
          rw [if_pos rfl]
          exact hd H6 x6 _ fun H7 e7 => h3 H7 (x6.trans e7) Q fun H8 e8 => q H8 ((y6.trans e7).trans e8)
        | false =>
          rw [if_neg Bool.false_ne_true]
          exact q H6 y6⟩
    | false =>
      rw [if_neg Bool.false_ne_true]
      exact q H4 y4⟩
end
/-! ### s[::-1]: a text of the same signs -/
def tRevS (te : TE) : TE := fun σ H Q => te σ H fun x H1 => ∃ l : List Nat, x = .str (S l) ∧ l.length ≤ 1000000 ∧ ∀ m : List Nat, (∀ c ∈ m, c ∈ l) → m.length ≤ l.length → Q (.str (S m)) H1
theorem rev_len (n : Nat) : (Builtin.Str.strSliceIndices none none (-1) n).length ≤ n := by
  unfold Builtin.Str.strSliceIndices sliceRange
  simp
  omega
theorem pe_revS {X : Cx} {e : Expr} {te : TE} {k : Nat} {p1 p2 p3 pos : Pos} (he : PE X e te) : PE X (.Subscript e (.Slice none none (some (.UnaryOp .USub (.Constant (.int 1) k p1) p2)) p3) pos) (tRevS te) := by
  refine ⟨fun pins s σ H Q I h => ?_⟩
  refine Subscript_ (thn (he.run pins s σ H _ I h) fun v s1 ⟨x, H1, I1, r1, q1⟩ => ?_)
  obtain ⟨l, ex, hl, q⟩ := q1
  subst ex
  obtain ⟨t, rfl⟩ := r1
  have hst : PO X (some (.UnaryOp .USub (.Constant (.int 1) k p1) p2)) (tPart (tUn (rU fun i => .int (-i)) (tC (.int 1)))) := po_some (pe_un un_neg pe_int)
  refine wpAny_Slice (thn (po_none.run pins s1 σ H1 (fun o H2 => o = none ∧ H2 = H1) I1 ⟨rfl, rfl⟩) fun vl s2 ⟨l', H2, I2, pl, el, e2⟩ => ?_)
  subst el e2
  refine thn (po_none.run pins s2 σ H2 (fun o H3 => o = none ∧ H3 = H2) I2 ⟨rfl, rfl⟩) fun vu s3 ⟨u, H3, I3, pu, eu, e3⟩ => ?_
  subst eu e3
  refine thn (hst.run pins s3 σ H3 (fun o H4 => o = some (-1) ∧ H4 = H3) I3 ⟨1, rfl, -1, rfl, rfl, rfl⟩) fun vs s4 ⟨o, H4, I4, ps, eo, e4⟩ => ?_
  subst eo e4
  have I5 : Inv X pins σ H4 { s4 with heap := s4.heap.push { cls := .type "slice", data := .fields #[vl, vu, vs] } } := I4.kept (t' := s4.toks) fun b ob q => Heap.get?_push_of_some _ q
  obtain ⟨l1, rfl, el1⟩ := IsPart.raw pl
  obtain ⟨u1, rfl, eu1⟩ := IsPart.raw pu
  obtain ⟨w1, rfl, ew1⟩ := IsPart.raw ps
  show wpAny (model X.prog X.w) X.A (subscriptTail e (.Slice none none (some (.UnaryOp .USub (.Constant (.int 1) k p1) p2)) p3) (.str (S l) t) (.ref s4.heap.objs.size)) (EP X pins σ Q) X.xe { s4 with heap := s4.heap.push { cls := .type "slice", data := .fields #[partValue l1, partValue u1, partValue w1] } }
  refine tail_any (ops := [.str (S l) t, .ref s4.heap.objs.size]) (typeIs_str _ _ _) PySem.F.slot_str_getitem.lookup ?_ (by with_unfolding_all rfl)
  refine wpAny_getItem_str_slice (l := l1) (u := u1) (st := w1) ⟨_, Heap.get?_push_size _ rfl, rfl, rfl⟩ (by rw [ew1]; rfl) ?_
  unfold sliceMade slicePicked
  rw [ew1, el1, eu1]
  rw [if_neg (by simp)]
  have hm : ((Builtin.Str.strSliceIndices none none ((some (-1 : Int)).getD 1) (S l).length).filterMap ((S l).cps[·]?)).length ≤ l.length := by
    refine Nat.le_trans (List.length_filterMap_le _ _) ?_
    rw [S_len]
    exact rev_len _
  refine ⟨?_, .str (S _), H4, I5.tok _, ⟨_, rfl⟩, q _ (fun c hc => ?_) hm⟩
  · show ((List.filterMap _ _).toArray).size ≤ sizeLine
    rw [List.size_toArray]
    exact Nat.le_trans hm (Nat.le_trans hl (by decide))
  · obtain ⟨i, _, hi⟩ := List.mem_filterMap.mp hc
    have : l[i]? = some c := by simpa using hi
    exact List.mem_of_getElem? this
section
variable {K : PySem.W.Frag} {σ : L2.St} {H H' : Hp} {ta tb te tx tc td : TE} {t u : TT} {x y z v : V} {r r' r'' : R2}
theorem eq_revS {l : List Nat} (h : Ev te σ H (vS l)) (hl : l.length ≤ 1000000) : EvQ (tRevS te) σ H (fun v => ∃ m, v = vS m ∧ (∀ c ∈ m, c ∈ l) ∧ m.length ≤ l.length) := fun H1 e Q q =>
  h H1 e _ fun H2 e2 => ⟨l, rfl, hl, fun m h1 h2 => q _ H2 ⟨m, rfl, h1, h2⟩ e2⟩
/-! ### values with facts of the heap that stay -/
def Stay (P : V → Hp → Prop) : Prop := ∀ v H H', Ex H H' → P v H → P v H'
def StayL (P : V → Hp → Prop) : Prop := ∀ v H D a a', H D = some (.lst a) → P v H → P v (upd H D (.lst a'))
def EvG (te : TE) (σ : L2.St) (H : Hp) (P : V → Hp → Prop) : Prop := ∀ H1, Ex H H1 → ∀ Q : VK, (∀ v H2, Ex H1 H2 → P v H2 → Q v H2) → te σ H1 Q
def EvAG (ta : TA) (σ : L2.St) (H : Hp) (P : List V → Hp → Prop) : Prop := ∀ H1, Ex H H1 → ∀ Q : List V → Hp → Prop, (∀ vs H2, Ex H1 H2 → P vs H2 → Q vs H2) → ta σ H1 Q
theorem Ev.toG {P : V → Hp → Prop} (h : Ev te σ H v) (p : ∀ H1, Ex H H1 → P v H1) : EvG te σ H P := fun H1 e Q q => h H1 e Q fun H2 e2 => q v H2 e2 (p H2 (e.trans e2))
theorem eag_nil : EvAG tNil σ H (fun vs _ => vs = []) := fun H1 _ _ q => q [] H1 (Ex.refl H1) rfl
theorem eag_cons {tr : TA} {P : V → Hp → Prop} {R : List V → Hp → Prop} (st : Stay P) (h : EvG te σ H P) (hr : EvAG tr σ H R) : EvAG (tCons te tr) σ H (fun vs H1 => ∃ v r, vs = v :: r ∧ P v H1 ∧ R r H1) := fun H1 e Q q =>
  h H1 e _ fun v H2 e2 p => hr H2 (e.trans e2) _ fun vs H3 e3 pr => q _ H3 (e2.trans e3) ⟨v, vs, rfl, st v H2 H3 e3 p, pr⟩
/-- a pair of ints, an instance -/
def PairI (v : V) (H : Hp) : Prop := ∃ p i j, v = .ref p ∧ H p = some (.tup [.int i, .int j])
theorem stay_pair : Stay PairI := fun v H H' e h => by
  obtain ⟨p, i, j, rfl, h⟩ := h
  exact ⟨p, i, j, rfl, e _ _ h⟩
theorem stayL_pair : StayL PairI := fun v H D a a' hd h => by
  obtain ⟨p, i, j, rfl, h⟩ := h
  exact ⟨p, i, j, rfl, by rw [upd_ne (fun e => by rw [e, hd] at h; cases h)]; exact h⟩
theorem eg_pair {i j : Int} (ha : Ev ta σ H (.int i)) (hb : Ev tb σ H (.int j)) : EvG (tTup (tCons ta (tCons tb tNil))) σ H PairI := fun H1 e Q q =>
  eu_tup (ea_cons ha (ea_cons hb ea_nil)) (by simp) H1 e Q fun p H2 _ e2 h2 => q _ H2 e2 ⟨p, i, j, rfl, h2⟩
def InsI (C : Addr) (fs : List (Str × V)) (v : V) (H : Hp) : Prop := ∃ p dx, v = .ref p ∧ H p = some (.ins C dx fs)
theorem stay_ins {C : Addr} {fs : List (Str × V)} : Stay (InsI C fs) := fun v H H' e h => by
  obtain ⟨p, dx, rfl, h⟩ := h
  exact ⟨p, dx, rfl, e _ _ h⟩
theorem stayL_ins {C : Addr} {fs : List (Str × V)} : StayL (InsI C fs) := fun v H D a a' hd h => by
  obtain ⟨p, dx, rfl, h⟩ := h
  exact ⟨p, dx, rfl, by rw [upd_ne (fun e => by rw [e, hd] at h; cases h)]; exact h⟩
theorem EvI.toG {C : Addr} {fs : List (Str × V)} (h : EvI te σ H C fs) : EvG te σ H (InsI C fs) := fun H1 e Q q => h H1 e Q fun p dx H2 _ e2 h2 => q _ H2 e2 ⟨p, dx, rfl, h2⟩
/-- a new list of such; one grown by another -/
def EvLG (te : TE) (σ : L2.St) (H : Hp) (n : Nat) (P : V → Hp → Prop) : Prop := ∀ H1, Ex H H1 → ∀ Q : VK, (∀ xs p H2, xs.length ≤ n → (∀ x ∈ xs, P x H2) → H1 p = none → Ex H1 H2 → H2 p = some (.lst xs) → Q (.ref p) H2) → te σ H1 Q
theorem elg_cat {P : V → Hp → Prop} {a : Addr} {xs : List V} {n : Nat} (st : Stay P) (ha : Ev ta σ H (.ref a)) (hs : H a = some (.lst xs)) (hp : ∀ x ∈ xs, P x H) (hb : EvLG tb σ H n P) (hz : xs.length + n ≤ 1000000) : EvLG (tOp rCat ta tb) σ H (xs.length + n) P := fun H1 e Q q =>
  ha H1 e _ fun H2 e2 => hb H2 (e.trans e2) _ fun ys b H3 hl hy hn e3 h3 => ⟨a, b, xs, ys, rfl, rfl, ((e.trans e2).trans e3) _ _ hs, h3, Nat.le_trans (by omega) (Nat.le_trans hz (by decide)), fun p hp' =>
    q _ p _ (by rw [List.length_append]; omega) (fun x hx => (List.mem_append.mp hx).elim (fun m => st x _ _ (((e.trans e2).trans e3).trans (Ex.new hp')) (hp x m)) (fun m => st x _ _ (Ex.new hp') (hy x m))) (fresh_back (e2.trans e3) hp') ((e2.trans e3).trans (Ex.new hp')) upd_same⟩
theorem elg_lst {P : V → Hp → Prop} {ta : TA} {n : Nat} (hn : n ≤ 1000) (h : EvAG ta σ H (fun vs H1 => vs.length = n ∧ ∀ x ∈ vs, P x H1)) (st : Stay P) : EvLG (tLst ta) σ H n P := fun H1 e Q q =>
  h H1 e _ fun vs H2 e2 hv => ⟨by rw [hv.1]; exact Nat.le_trans hn (by decide), fun p hp => q vs p _ (by omega) (fun x hx => st x _ _ (Ex.new hp) (hv.2 x hx)) (fresh_back e2 hp) (e2.trans (Ex.new hp)) upd_same⟩
theorem EvAG.imp {ta : TA} {P R : List V → Hp → Prop} (h : EvAG ta σ H P) (i : ∀ vs H1, P vs H1 → R vs H1) : EvAG ta σ H R := fun H1 e Q q => h H1 e Q fun vs H2 e2 p => q vs H2 e2 (i vs H2 p)
/-- a comprehension over range(a, b), no test, each value such -/
theorem elg_lcR2 {P : V → Hp → Prop} {ta : TA} {j : Nat} {vs : List Nat} {lo hi : Int} (st : Stay P) (sl : StayL P) (h : EvA ta σ H [.int lo, .int hi]) (hb : -100000 ≤ lo ∧ lo ≤ 100000 ∧ -100000 ≤ hi ∧ hi ≤ 100000 ∧ hi - lo ≤ 40000) (hw : ∀ x, wipe ((wipe σ vs).set j (some x)) vs = wipe σ vs)
    (he : ∀ (i : Nat) H1, Ex H H1 → lo + (i : Int) < hi → EvG te ((wipe σ vs).set j (some (.int (lo + (i : Int))))) H1 P) : EvLG (tLc (iRng2 ta) (gName j) tYes te vs) σ H (hi - lo).toNat P := fun H0 e Q q =>
  h H0 e _ fun H1 e1 => ⟨lo, hi, rfl, ⟨by omega, by omega, by omega, by omega⟩, fun D hD => by
    refine lc_it (w := walk_range (lo := lo) (n := (hi - lo).toNat)) (fun k H' => ∃ acc, H1 D = none ∧ Ex H1 H' ∧ H' D = some (.lst acc) ∧ acc.length = k ∧ ∀ x ∈ acc, P x H') ⟨[], hD, Ex.new hD, upd_same, rfl, fun x hx => by cases hx⟩ (fun k H' _ p => trivial) (fun k x H' H'' hk p y => ?_) (fun H' p => ?_)
    · obtain ⟨acc, p1, p2, p3, p4, p5⟩ := p
      obtain ⟨rfl, rfl⟩ := y
      refine ⟨hw _, ?_⟩
      unfold tYes
      simp only [↓reduceIte]
      refine he k H'' ((e.trans e1).trans p2) (by omega) H'' (Ex.refl _) _ fun v H3 e3 pv => ⟨acc, e3 _ _ p3, sz_lt (by omega), acc ++ [v], p1, Ex.mut (p2.trans e3) p1, upd_same, by rw [List.length_append, p4]; rfl, fun z hz => ?_⟩
      refine sl z H3 D acc _ (e3 _ _ p3) ?_
      rcases List.mem_append.mp hz with m | m
      · exact st z _ _ e3 (p5 z m)
      · rw [List.mem_singleton.mp m]
        exact pv
    · obtain ⟨acc, p1, p2, p3, p4, p5⟩ := p
      exact q acc D H' (by omega) p5 (fresh_back e1 p1) (e1.trans p2) p3⟩
end
end WP
namespace WP
open PySem PySem.Spec PyProof.Rows L2 Evl
open SX (S S_len S_cat S_inj S_tl)
section
variable {K : PySem.W.Frag} {σ : L2.St} {H H' : Hp} {ta tb te tx tc td tl : TE} {t u : TT} {x y z v : V} {r r' r'' : R2} {D : Ends} {tu tw tz : TS} {g : TG} {P : V → Hp → Prop}
theorem EvL.toLG {xs : List V} (h : EvL te σ H xs) (p : ∀ x ∈ xs, ∀ H1, Ex H H1 → P x H1) : EvLG te σ H xs.length P := fun H1 e Q q => h H1 e Q fun a H2 hn e2 h2 => q xs a H2 (Nat.le_refl _) (fun x hx => p x hx H2 (e.trans e2)) hn e2 h2
theorem q_asgI {i : Nat} {C : Addr} {fs : List (Str × V)} (h : EvI te σ H C fs) (k : ∀ p dx H1, H p = none → Ex H H1 → H1 p = some (.ins C dx fs) → tz D (σ.set i (some (.ref p))) H1) : tSeq (tAsg te (gName i)) tz D σ H := h H (Ex.refl H) _ fun p dx H1 hp e h1 => k p dx H1 hp e h1
theorem q_asgLG {i n : Nat} (h : EvLG te σ H n P) (k : ∀ xs p H1, xs.length ≤ n → (∀ x ∈ xs, P x H1) → H p = none → Ex H H1 → H1 p = some (.lst xs) → tz D (σ.set i (some (.ref p))) H1) : tSeq (tAsg te (gName i)) tz D σ H := h H (Ex.refl H) _ fun xs p H1 hl hx hp e h1 => k xs p H1 hl hx hp e h1
theorem s_asgLG {i n : Nat} (h : EvLG te σ H n P) (k : ∀ xs p H1, xs.length ≤ n → (∀ x ∈ xs, P x H1) → H p = none → Ex H H1 → H1 p = some (.lst xs) → D.nx (σ.set i (some (.ref p))) H1) : tAsg te (gName i) D σ H := h H (Ex.refl H) _ fun xs p H1 hl hx hp e h1 => k xs p H1 hl hx hp e h1
/-- a for over a new list of such things; the body only lays new objects -/
theorem s_forLG {n : Nat} (h : EvLG tl σ H n P) (st : Stay P) (I : L2.St → Prop) (i0 : I σ)
    (hs : ∀ G x σ' H', Ex H G → Ex G H' → P x H' → I σ' → g x σ' H' fun σ2 H2 => tu { D with nx := fun σ3 H3 => I σ3 ∧ Ex G H3, ct := fun σ3 H3 => I σ3 ∧ Ex G H3, bk := D.nx } σ2 H2)
    (hd : ∀ σ' H', I σ' → Ex H H' → D.nx σ' H') : tFor (iList K tl) g tu D σ H := h H (Ex.refl H) _ fun xs p H1 _ hx _ e h1 =>
  ⟨p, rfl, ⟨xs, sq_of h1⟩, for_list (fun _ σ' H' => I σ' ∧ Ex H1 H') ⟨i0, Ex.refl _⟩ (fun _ σ' H' _ q => sq_of (q.2 _ _ h1)) (fun i x σ' H' hi q => hs H1 x σ' H' e q.2 (st x _ _ q.2 (hx x (List.mem_of_getElem? hi))) q.1) (fun σ' H' q => hd σ' H' q.1 (e.trans q.2))⟩
theorem q_forLG {n : Nat} (h : EvLG tl σ H n P) (st : Stay P) (I : L2.St → Prop) (i0 : I σ)
    (hs : ∀ G x σ' H', Ex H G → Ex G H' → P x H' → I σ' → g x σ' H' fun σ2 H2 => tu { D with nx := fun σ3 H3 => I σ3 ∧ Ex G H3, ct := fun σ3 H3 => I σ3 ∧ Ex G H3, bk := tz D } σ2 H2)
    (hd : ∀ σ' H', I σ' → Ex H H' → tz D σ' H') : tSeq (tFor (iList K tl) g tu) tz D σ H := s_forLG (D := { D with nx := tz D }) h st I i0 hs hd
/-- .. over a list that stands -/
theorem q_forLV {a : Addr} {xs : List V} (h : Ev tl σ H (.ref a)) (hl : H a = some (.lst xs)) (hx : ∀ x ∈ xs, P x H) (st : Stay P) (I : L2.St → Prop) (i0 : I σ)
    (hs : ∀ G x σ' H', Ex H G → Ex G H' → P x H' → I σ' → g x σ' H' fun σ2 H2 => tu { D with nx := fun σ3 H3 => I σ3 ∧ Ex G H3, ct := fun σ3 H3 => I σ3 ∧ Ex G H3, bk := tz D } σ2 H2)
    (hd : ∀ σ' H', I σ' → Ex H H' → tz D σ' H') : tSeq (tFor (iList K tl) g tu) tz D σ H := h H (Ex.refl H) _ fun H1 e =>
  ⟨a, rfl, ⟨xs, sq_of (e _ _ hl)⟩, for_list (D := { D with nx := tz D }) (fun _ σ' H' => I σ' ∧ Ex H1 H') ⟨i0, Ex.refl _⟩ (fun _ σ' H' _ q => sq_of (q.2 _ _ (e _ _ hl))) (fun i x σ' H' hi q => hs H1 x σ' H' e q.2 (st x _ _ (e.trans q.2) (hx x (List.mem_of_getElem? hi))) q.1) (fun σ' H' q => hd σ' H' q.1 (e.trans q.2))⟩
theorem q_par2 {te1 te2 : TE} {i j : Nat} {P1 P2 : V → Prop} (h1 : EvQ te1 σ H P1) (h2 : EvQ te2 σ H P2) (k : ∀ v1 v2 H1, P1 v1 → P2 v2 → Ex H H1 → tz D ((σ.set i (some v1)).set j (some v2)) H1) :
    tSeq (tPar i j (tCons te1 (tCons te2 tNil))) tz D σ H := h1 H (Ex.refl H) _ fun v1 H1 p1 e1 => h2 H1 e1 _ fun v2 H2 p2 e2 => ⟨v1, v2, rfl, k v1 v2 _ p1 p2 (e1.trans e2)⟩
theorem EvQ.toG {p : V → Prop} (h : EvQ te σ H p) : EvG te σ H (fun v _ => p v) := fun H1 e Q q => h H1 e Q fun v H2 pv e2 => q v H2 e2 pv
theorem q_asgLA {ta : TA} {R : List V → Hp → Prop} {i : Nat} (h : EvAG ta σ H R) (hz : ∀ vs H1, R vs H1 → vs.length ≤ 1000) (k : ∀ vs p H1, R vs H1 → Ex H H1 → H1 p = none → tz D (σ.set i (some (.ref p))) (upd H1 p (.lst vs))) : tSeq (tAsg (tLst ta) (gName i)) tz D σ H :=
  h H (Ex.refl H) _ fun vs H1 e1 r => ⟨Nat.le_trans (hz vs H1 r) (by decide), fun p hp => k vs p H1 r e1 hp⟩
theorem ev_or1 {t u : TE} (h : Ev t σ H v) : Ev (fun σ H Q => t σ H Q ∨ u σ H Q) σ H v := fun H1 e Q q => .inl (h H1 e Q q)
theorem ev_or2 {t u : TE} (h : Ev u σ H v) : Ev (fun σ H Q => t σ H Q ∨ u σ H Q) σ H v := fun H1 e Q q => .inr (h H1 e Q q)
theorem ev_methI {C : Addr} {fs : List (Str × V)} {m : Str} {sp : Sp} {E : XK} {t : TA} {vs : List V} (h : EvI ta σ H C fs) (l : fs.lookup m = none) (ha : EvA t σ H vs) (hs : ∀ p dx H1, H1 p = some (.ins C dx fs) → SpV sp (.ref p :: vs) H1 z) : Ev (tMeth C m sp [] E ta t) σ H z := fun H1 e Q q =>
  h H1 e _ fun p dx H2 _ e2 hp => ⟨p, dx, fs, rfl, hp, l, ha H2 (e.trans e2) _ fun H3 e3 => by
    rw [List.append_nil]
    exact hs p dx H3 (e3 _ _ hp) H3 (Ex.refl _) Q (fun H4 e4 => q H4 ((e2.trans e3).trans e4)) E⟩
theorem stay_const {p : V → Prop} : Stay (fun v _ => p v) := fun _ _ _ _ h => h
/-- list(range(a, b)) -/
theorem el_listRg {i j : Int} (ha : Ev ta σ H (.int i)) (hb : Ev tb σ H (.int j)) (ok : RgOk i j) : EvL (tLstRg (tRg2 ta tb)) σ H (rgV i j) := fun H1 e Q q =>
  ha H1 e _ fun H2 e2 => hb H2 (e.trans e2) _ fun H3 e3 => ⟨i, j, rfl, rfl, ok, fun p hp => q p _ (fresh_back (e2.trans e3) hp) ((e2.trans e3).trans (Ex.new hp)) upd_same⟩
theorem rgV_int {i j : Int} : ∀ x ∈ rgV i j, ∃ k : Int, x = .int k := by
  intro x hx
  unfold rgV at hx
  obtain ⟨n, _, rfl⟩ := List.mem_map.mp hx
  exact ⟨_, rfl⟩
theorem rgV_len {i j : Int} : (rgV i j).length = (j - i).toNat := by
  unfold rgV
  simp
/-- == of tuples of ints -/
theorem shaped_tup {xs : List Int} : SeqAt.shaped (.tuple (xs.map PyData.int)) = true := shaped_map xs (fun x _ => lay_int x)
theorem rv_eqTI {a b : Addr} {xs ys : List Int} (ha : SqT K H a (xs.map V.int)) (hb : SqT K H b (ys.map V.int)) : RV (rEqD K) (.ref a) (.ref b) H (.bl (decide (xs = ys))) := fun H1 e Q q =>
  ⟨.tuple (xs.map PyData.int), .tuple (ys.map PyData.int), .tup (ex_t e ha) (dp_map (fun x => .int x) xs), .tup (ex_t e hb) (dp_map (fun x => .int x) ys), shaped_tup, shaped_tup, by
    rw [PyData.eqv, eqvAll_map eqv_int]
    exact q H1 (Ex.refl H1)⟩
end
section
variable {K : PySem.W.Frag} {H : Hp}
theorem rv_neTI {a b : Addr} {xs ys : List Int} (ha : SqT K H a (xs.map V.int)) (hb : SqT K H b (ys.map V.int)) : RV (rNeD K) (.ref a) (.ref b) H (.bl (!decide (xs = ys))) := fun H1 e Q q =>
  ⟨.tuple (xs.map PyData.int), .tuple (ys.map PyData.int), .tup (ex_t e ha) (dp_map (fun x => .int x) xs), .tup (ex_t e hb) (dp_map (fun x => .int x) ys), shaped_tup, shaped_tup, by
    rw [PyData.eqv, eqvAll_map eqv_int]
    exact q H1 (Ex.refl H1)⟩
end
/-! ### the law's words about answers -/
def sp_says : Sp := fun vs H Q _ => ∃ b d : Bool, vs = [.bl b, .bl d] ∧ RetV (.bl (b == d)) H Q
def sp_stands : Sp := fun vs H Q _ => ∃ w t : List Nat, vs = [vS w, vS t] ∧ RetV (.bl (inF t w)) H Q
def sp_pright : Sp := fun vs H Q _ => ∃ (w t : List Nat) (i : Int), vs = [vS w, vS t, .int i] ∧ w.length ≤ 1000 ∧ t.length ≤ 1000 ∧ RetV (.bl true) H Q
def sp_mright : Sp := fun vs H Q _ => ∃ (w t : List Nat) (b e : Int), vs = [vS w, vS t, .int b, .int e] ∧ w.length ≤ 1000 ∧ t.length ≤ 1000 ∧ RetV (.bl true) H Q
theorem piece_due (i : Int) (w t : List Nat) : pieceShows i w t = ((decide (0 ≤ i) && decide (i ≤ (w.length : Int) - (t.length : Int))) && decide (cut w (some i) (some (i + (t.length : Int))) = t)) := by
  unfold pieceShows
  by_cases h : 0 ≤ i
  · obtain ⟨n, rfl⟩ := Int.eq_ofNat_of_zero_le h
    rw [decide_eq_true h, Bool.true_and, Bool.true_and, Bool.eq_iff_iff, Bool.and_eq_true, decide_eq_true_eq, decide_eq_true_eq, decide_eq_true_eq, Int.toNat_natCast, mem_places, show ((n : Int) + (t.length : Int)) = ((n + t.length : Nat) : Int) by omega, cut_mid, Nat.add_sub_cancel_left]
    exact ⟨fun q => ⟨by omega, q.2⟩, fun q => ⟨by omega, q.2⟩⟩
  · rw [decide_eq_false h]
    rfl
theorem miss_due (b e : Int) (w t : List Nat) : missShows b e w t = ((decide (0 ≤ b) && (decide (b < e) && decide (e ≤ (t.length : Int)))) && (!inF (cut t (some (if b > 0 then b else 0)) (some (if e > 0 then e else 0))) w && (inF (cut (cut t (some (if b > 0 then b else 0)) (some (if e > 0 then e else 0))) (some 1) none) w && inF (cut (cut t (some (if b > 0 then b else 0)) (some (if e > 0 then e else 0))) none (some (-1))) w))) := by
  unfold missShows
  by_cases h : 0 ≤ b ∧ b < e
  · have e1 : (if b > 0 then b else 0) = b := by split <;> omega
    have e2 : (if e > 0 then e else 0) = e := by split <;> omega
    rw [e1, e2, decide_eq_true h.1, decide_eq_true h.2, decide_eq_true (show 0 ≤ e by omega)]
    rfl
  · have : (decide (0 ≤ b) && (decide (b < e) && decide (e ≤ (t.length : Int)))) = false := by
      rw [Bool.and_eq_false_iff, Bool.and_eq_false_iff, decide_eq_false_iff_not, decide_eq_false_iff_not]
      omega
    rw [this]
    have : (decide (0 ≤ b) && decide (0 ≤ e) && (decide (b < e) && decide (e ≤ (t.length : Int)))) = false := by
      rw [Bool.and_eq_false_iff, Bool.and_eq_false_iff, Bool.and_eq_false_iff, decide_eq_false_iff_not, decide_eq_false_iff_not, decide_eq_false_iff_not]
      omega
    rw [this]
    rfl
end WP
namespace WP
open PySem PySem.Spec PyProof.Rows L2 Evl
open SX (S S_len S_cat S_inj S_tl)
section
variable {K : PySem.W.Frag} {σ : L2.St} {H H' : Hp} {ta tb te tx tc td tl : TE} {t u : TT} {x y z v : V} {r r' r'' : R2} {D : Ends} {tu tw tz : TS} {g : TG} {P : V → Hp → Prop}
def RetI (C : Addr) (fs : List (Str × V)) (H : Hp) (Q : VK) : Prop := ∀ p dx H2, H p = none → Ex H H2 → H2 p = some (.ins C dx fs) → Q (.ref p) H2
theorem s_retI {C : Addr} {fs : List (Str × V)} (h : EvI te σ H C fs) (k : ∀ p dx H1, H p = none → Ex H H1 → H1 p = some (.ins C dx fs) → D.rt (.ref p) H1) : tRet te D σ H := h H (Ex.refl H) _ k
theorem RetI.go {C : Addr} {fs : List (Str × V)} {Q : VK} (k : RetI C fs H Q) (e : Ex H H') {p dx : Addr} {H2 : Hp} (hp : H' p = none) (e2 : Ex H' H2) (h : H2 p = some (.ins C dx fs)) : Q (.ref p) H2 := k p dx H2 (fresh_back e hp) (e.trans e2) h
theorem el_if {b : Bool} {xs : List V} (h : EvT t σ H b) (h1 : b = true → EvL ta σ H xs) (h2 : b = false → EvL tb σ H xs) : EvL (tIf t ta tb) σ H xs := fun H1 e Q q => h H1 e _ fun H2 e2 => by
  cases b with
  | true =>
    show ta σ H2 Q
    exact h1 rfl H2 (e.trans e2) Q fun p H3 hp e3 h3 => q p H3 (fresh_back e2 hp) (e2.trans e3) h3
  | false =>
    show tb σ H2 Q
    exact h2 rfl H2 (e.trans e2) Q fun p H3 hp e3 h3 => q p H3 (fresh_back e2 hp) (e2.trans e3) h3
theorem ev_callG {ta : TA} {R : List V → Hp → Prop} {sp : Sp} {E : XK} (h : EvAG ta σ H R) (hs : ∀ vs H1, R vs H1 → Ex H H1 → SpV sp vs H1 z) : Ev (tCall sp [] E ta) σ H z := fun H1 e Q q =>
  h H1 e _ fun vs H2 e2 r => by
    show sp (vs ++ []) H2 Q E
    rw [List.append_nil]
    exact hs vs H2 r (e.trans e2) H2 (Ex.refl _) Q (fun H3 e3 => q H3 (e2.trans e3)) E
theorem EvG.imp {P R : V → Hp → Prop} (h : EvG te σ H P) (i : ∀ v H1, P v H1 → R v H1) : EvG te σ H R := fun H1 e Q q => h H1 e Q fun v H2 e2 p => q v H2 e2 (i v H2 p)
/-- a pair of texts -/
def PairS (v : V) (H : Hp) : Prop := ∃ p w t, v = .ref p ∧ H p = some (.tup [vS w, vS t]) ∧ w.length ≤ 1000 ∧ t.length ≤ 1000
theorem stay_pairS : Stay PairS := fun v H H' e h => by
  obtain ⟨p, w, t, rfl, h, h1, h2⟩ := h
  exact ⟨p, w, t, rfl, e _ _ h, h1, h2⟩
theorem eg_pairS (ha : EvQ ta σ H (fun v => ∃ w, v = vS w ∧ w.length ≤ 1000)) (hb : EvQ tb σ H (fun v => ∃ w, v = vS w ∧ w.length ≤ 1000)) : EvG (tTup (tCons ta (tCons tb tNil))) σ H PairS := fun H1 e Q q =>
  ha H1 e _ fun v1 H2 p1 e2 => hb H2 (e.trans e2) _ fun v2 H3 p2 e3 => ⟨by show 2 ≤ sizeLine; decide, fun p hp => by
    obtain ⟨w, rfl, h1⟩ := p1
    obtain ⟨t, rfl, h2⟩ := p2
    exact q _ _ ((e2.trans e3).trans (Ex.new hp)) ⟨p, w, t, rfl, upd_same, h1, h2⟩⟩
def LstP (P : V → Hp → Prop) (n : Nat) (v : V) (H : Hp) : Prop := ∃ p xs, v = .ref p ∧ H p = some (.lst xs) ∧ xs.length ≤ n ∧ ∀ x ∈ xs, P x H
theorem stay_lstP {n : Nat} (st : Stay P) : Stay (LstP P n) := fun v H H' e h => by
  obtain ⟨p, xs, rfl, h, hl, hx⟩ := h
  exact ⟨p, xs, rfl, e _ _ h, hl, fun x m => st x _ _ e (hx x m)⟩
theorem EvLG.toG {n : Nat} (h : EvLG te σ H n P) : EvG te σ H (LstP P n) := fun H1 e Q q => h H1 e Q fun xs p H2 hl hx _ e2 h2 => q _ H2 e2 ⟨p, xs, rfl, h2, hl, hx⟩
end
theorem ev_inT {K : PySem.W.Frag} {σ : L2.St} {H : Hp} {ta tb : TE} {xs : List Int} (ha : EvU ta σ H (xs.map V.int)) (hb : EvU tb σ H (xs.map V.int)) : Ev (tOp (rInD K) ta (tLst (tCons tb tNil))) σ H (.bl true) := fun H1 e Q q =>
  ha H1 e _ fun p H2 _ e2 hp => hb H2 (e.trans e2) _ fun p2 H3 _ e3 hp2 => ⟨by show 1 ≤ sizeLine; decide, fun l hl => by
    have nw := Ex.new (o := .lst [V.ref p2]) hl
    refine ⟨.tuple (xs.map PyData.int), [.tuple (xs.map PyData.int)], .tup (st_of (nw _ _ (e3 _ _ hp))) (dp_map (fun x => .int x) xs), .lst (sq_of upd_same) (.cons (.tup (st_of (nw _ _ hp2)) (dp_map (fun x => .int x) xs)) .nil), shaped_tup, ?_, ?_⟩
    · have h1 : ∀ xs : List Int, PyData.canLayAll0 (xs.map PyData.int) = true ∧ PyData.depthAll (xs.map PyData.int) ≤ 1 := by
        intro xs
        induction xs with
        | nil => exact ⟨rfl, by simp [PyData.depthAll]⟩
        | cons x xs ih =>
          rw [List.map_cons, PyData.canLayAll0, PyData.depthAll, (lay_int x).1, ih.1]
          exact ⟨rfl, by have := (lay_int x).2; omega⟩
      unfold SeqAt.shaped
      rw [Bool.and_eq_true, decide_eq_true_eq]
      refine ⟨by rw [PyData.canLay0, PyData.canLayAll0, PyData.canLay0, (h1 xs).1]; rfl, ?_⟩
      rw [PyData.depth, PyData.depthAll, PyData.depthAll, PyData.depth]
      have := (h1 xs).2
      omega
    · have e : ([PyData.tuple (xs.map PyData.int)].any fun z => PyData.eqv z (.tuple (xs.map PyData.int))) = true := by
        rw [List.any_cons, PyData.eqv, eqvAll_map eqv_int, decide_eq_true rfl]
        rfl
      rw [e]
      exact q _ ((e2.trans e3).trans nw)⟩
theorem units65 {k : Nat} {A : Around} (h : Room k A) : A.units + 65 < cLine := by
  have := h.un
  omega
/-! ### told -/
def sp_told (C1 C2 CP CM : Addr) : Sp := fun vs H Q E => ∃ v1 n1 v2 n2, vs = [v1, v2] ∧ Thing H v1 n1 ∧ Thing H v2 n2 ∧
  (isText v1 = false → ∀ H2, Ex H H2 → E (.ref C1) none H2) ∧ (isText v1 = true → isText v2 = false → ∀ H2, Ex H H2 → E (.ref C2) none H2) ∧
  (∀ w t, v1 = vS w → v2 = vS t → Wd w → Wd t → (∀ i r, placesF w t = i :: r → RetI CP [("place", .int (i : Nat))] H Q) ∧
    (placesF w t = [] → ∀ b e : Nat, b < e → e ≤ t.length → (∀ j, j < e → inF (t.take j) w = true) → inF (t.take e) w = false → (∀ j, j ≤ b → inF ((t.take e).drop j) w = false) → inF ((t.take e).drop (b + 1)) w = true → RetI CM [("begin", .int (b : Nat)), ("end", .int (e : Nat))] H Q))
theorem inF_nil (w : List Nat) : inF [] w = true := inF_iff.mpr (List.nil_infix)
theorem cut_tb (t : List Nat) (b e : Nat) : cut t (some (b : Int)) (some (e : Int)) = (t.take e).drop b := by
  rw [cut_mid, List.drop_take]
/-- what told tells of a text that is none is so -/
theorem told_shows {w t : List Nat} {b e : Nat} (h1 : b < e) (h2 : e ≤ t.length) (h3 : ∀ j, j < e → inF (t.take j) w = true) (h5 : ∀ j, j ≤ b → inF ((t.take e).drop j) w = false) (h6 : inF ((t.take e).drop (b + 1)) w = true) : missShows b e w t = true := by
  unfold missShows
  rw [cut_tb, h5 b (Nat.le_refl _), decide_eq_true (show (0 : Int) ≤ b by omega), decide_eq_true (show (0 : Int) ≤ e by omega), decide_eq_true (show (b : Int) < e by omega), decide_eq_true (show (e : Int) ≤ t.length by omega)]
  have e1 : cut ((t.take e).drop b) (some 1) none = (t.take e).drop (b + 1) := by
    rw [show (some (1 : Int)) = some ((1 : Nat) : Int) from rfl, cut_from, List.drop_drop]
  have e2 : inF (cut ((t.take e).drop b) none (some (-1))) w = true := by
    rw [cut_last, inF_iff]
    have h := inF_iff.mp (h3 (e - 1) (by omega))
    have e3 : ((t.take e).drop b).dropLast = (t.take (e - 1)).drop b := by
      rw [List.dropLast_eq_take, List.length_drop, List.length_take, Nat.min_eq_left h2, List.drop_take, List.drop_take, List.take_take]
      congr 1
      omega
    rw [e3]
    exact (List.drop_suffix _ _).isInfix.trans h
  rw [e1, h6, e2]
  rfl
theorem told_piece {w t : List Nat} {i : Nat} {r : List Nat} (h : placesF w t = i :: r) : pieceShows i w t = true := by
  unfold pieceShows
  rw [decide_eq_true (show (0 : Int) ≤ i by omega), Int.toNat_natCast, h, decide_eq_true List.mem_cons_self]
  rfl
/-- due, of one of the two -/
def sp_due (CP CM : Addr) : Sp := fun vs H Q _ => ∃ (w t : List Nat) (x : Addr), vs = [vS w, vS t, .ref x] ∧ w.length ≤ 1000 ∧ t.length ≤ 1000 ∧
  ((∃ dx i, H x = some (.ins CP dx [("place", .int i)]) ∧ RetV (.bl (pieceShows i w t)) H Q) ∨ (∃ dx b e, H x = some (.ins CM dx [("begin", .int b), ("end", .int e)]) ∧ RetV (.bl (missShows b e w t)) H Q))
theorem miss_due2 (b e : Int) (w t : List Nat) : missShows b e w t = ((decide (0 ≤ b) && (decide (b < e) && decide (e ≤ (t.length : Int)))) && (!inF (cut t (some b) (some e)) w && (inF (cut (cut t (some b) (some e)) (some 1) none) w && inF (cut (cut t (some b) (some e)) none (some (-1))) w))) := by
  unfold missShows
  congr 1
  by_cases h : 0 ≤ b
  · by_cases h2 : b < e
    · rw [decide_eq_true h, decide_eq_true (show 0 ≤ e by omega), decide_eq_true h2]
      rfl
    · rw [decide_eq_false h2]
      cases decide (0 ≤ b) <;> cases decide (0 ≤ e) <;> rfl
  · rw [decide_eq_false h]
    rfl
def sp_right : Sp := fun vs H Q _ => ∃ (w t : List Nat) (v : V), vs = [vS w, vS t, v] ∧ Wd w ∧ Wd t ∧ LstP PairS 3 v H ∧ RetV (.bl true) H Q
end WP
namespace WP
open PySem PySem.Spec PyProof.Rows L2 Evl
open SX (S S_len S_cat S_inj S_tl)
def topS (i : Nat) : Stmt := PySem.Challenge.pw_wordpieces_k04_whole_told.main.body.getD i (.Pass ⟨0, 0, 0, 0⟩)
section
variable {P : Program} {w : World} {K : PySem.W.Frag} {mg : Str → Option Value} {base : Heap}
abbrev s_is_text : Stmt := topS 7
abbrev nm_is_text : List Str := ["thing"]
theorem sc_is_text : FnScope nm_is_text ["thing"] (defScope s_is_text) := ⟨rfl, rfl, rfl, by decide +kernel, rfl, by decide +kernel, by decide +kernel⟩
theorem ok_is_text {f : Addr} {fd : FuncData} (F : Fun K "is_text" "is_text" s_is_text f fd) (B : Bl mg) (g_LETTERS : ∃ u, mg "LETTERS" = some u ∧ RelV (.str (S azs)) u) (g_MOST : ∃ u, mg "MOST" = some u ∧ RelV (.int 100) u) :
    FnOk P w K mg base (L2.CX P w) 1 f fd ["thing"] (sp_is_text) := by
  obtain ⟨u_LETTERS, g_LETTERS, r_LETTERS⟩ := g_LETTERS
  obtain ⟨u_MOST, g_MOST, r_MOST⟩ := g_MOST
  refine F.okX sc_is_text (fun vs H Q E h => ?_) (fun cdv A outer s H vs Q E hr h => ?_)
  · obtain ⟨v, n, rfl, hT, k⟩ := h
    first | rfl | (rw [List.length_cons, hl]; rfl)
  · obtain ⟨v, n, rfl, hT, k⟩ := h
    refine ⟨_, (pss_one (ps_ret (pe_and (pe_callB call_isi (by rfl) B.isinstance (by decide +kernel) (pa_cons (pv 0) (pa_cons (pe_bltn (v := .ty "str") (by rfl) B.str_ (by decide +kernel) rfl) pa_nil))) (pe_and (pe_cmpR op_le (pe_callB call_len_str (by rfl) B.len PySem.boot_len (pa_cons (pv 0) pa_nil)) (pe_glob rfl g_MOST r_MOST) (nomark _)) (pe_one (pe_cmpR op_eq (pe_bm PySem.F.plainAttrs_str PySem.F.slot_str_strip PySem.F.type_str_strip mt_stripChars (pv 0) (pa_cons (pe_glob rfl g_LETTERS r_LETTERS) pa_nil)) pe_str (nomark _))))))), ?_⟩
    cases hT with
    | str l hl =>
      refine s_ret (v := .bl (isText (.str (S l)))) (ev_is (ev_andV (ev_isi (ev_var rfl) (.str l hl) (b := true) (by decide +kernel)) fun _ =>
        ev_andV (ev_op (ev_lenS (ev_var rfl) hl) ev_c rv_I0) fun _ => ev_op (ev_bm (ev_var rfl) (fun _ _ => rfl) (ea_cons ev_c ea_nil) (z := .str (Txt.stripChars (S l) (S azs))) ?_) ev_c (rv_eq (x := .str (Txt.stripChars (S l) (S azs))) rfl)) ?_) (fun H1 e1 => k.go e1)
      · exact fun H1 _ Q q => ⟨S l, S azs, rfl, rfl, by rw [S_len]; exact Nat.le_trans hl (by decide), q H1 (Ex.refl H1)⟩
      · rw [isText_S]
        congr 1
        rw [Bool.true_and]
        have e : decide (V.str (Txt.stripChars (S l) (S azs)) = V.str "") = l.all (fun c => azs.contains c) := by
          rw [← strip_S, Bool.eq_iff_iff, decide_eq_true_eq, decide_eq_true_eq]
          exact ⟨fun h => V.str.inj h, fun h => congrArg V.str h⟩
        rw [e]
        congr 1
        exact decide_eq_decide.mpr (by omega)
    | non => exact s_ret (ev_andV (b := false) (ev_isi (ev_var rfl) .non (b := false) (by decide +kernel)) fun h => nomatch h) (fun H1 e1 => k.go e1)
    | bl b => exact s_ret (ev_andV (b := false) (ev_isi (ev_var rfl) (.bl b) (b := false) (by decide +kernel)) fun h => nomatch h) (fun H1 e1 => k.go e1)
    | int i => exact s_ret (ev_andV (b := false) (ev_isi (ev_var rfl) (.int i) (b := false) (by decide +kernel)) fun h => nomatch h) (fun H1 e1 => k.go e1)
    | lst q => exact s_ret (ev_andV (b := false) (ev_isi (ev_var rfl) (.lst q) (b := false) (by decide +kernel)) fun h => nomatch h) (fun H1 e1 => k.go e1)
    | tup q => exact s_ret (ev_andV (b := false) (ev_isi (ev_var rfl) (.tup q) (b := false) (by decide +kernel)) fun h => nomatch h) (fun H1 e1 => k.go e1)
    | dK q => exact s_ret (ev_andV (b := false) (ev_isi (ev_var rfl) (.dK q) (b := false) (by decide +kernel)) fun h => nomatch h) (fun H1 e1 => k.go e1)

abbrev s_places_of : Stmt := topS 10
abbrev nm_places_of : List Str := ["word", "text", "many", "place"]
theorem sc_places_of : FnScope nm_places_of ["word", "text"] (defScope s_places_of) := ⟨rfl, rfl, rfl, by decide +kernel, rfl, by decide +kernel, by decide +kernel⟩
theorem ok_places_of {f : Addr} {fd : FuncData} (F : Fun K "places_of" "places_of" s_places_of f fd) (B : Bl mg) :
    FnOk P w K mg base (L2.CX P w) 1 f fd ["word", "text"] (sp_places_of) := by
  refine F.okX sc_places_of (fun vs H Q E h => ?_) (fun cdv A outer s H vs Q E hr h => ?_)
  · obtain ⟨W, T, rfl, hW, hT, k⟩ := h
    first | rfl | (rw [List.length_cons, hl]; rfl)
  · obtain ⟨W, T, rfl, hW, hT, k⟩ := h
    refine ⟨_, (pss_cons (ps_set (i := 2) sc_places_of.nd rfl (.inl rfl) (pe_op op_add (pe_op op_sub (pe_callB call_len_str (by rfl) B.len PySem.boot_len (pa_cons (pv 0) pa_nil)) (pe_callB call_len_str (by rfl) B.len PySem.boot_len (pa_cons (pv 1) pa_nil))) pe_int))
      (pss_one (ps_ret (pe_lc (own := [("place", 3)]) (g := (gName 3)) rfl sc_places_of.nd (pi_range1 rfl B.range (pa_cons (pv 2) pa_nil)) (blkOk_by (N := nm_places_of) (sc := defScope s_places_of) (by decide +kernel)) (fun _ _ _ _ _ => by exact (pg_name (i := 3) sc_places_of.nd rfl (.inl rfl))) (fun _ _ _ _ _ => by exact (pts_one (pt_cmpR op_eq (pe_slice sl_str (pv 0) (po_some (pv 3)) (po_some (pe_op op_add (pv 3) (pe_callB call_len_str (by rfl) B.len PySem.boot_len (pa_cons (pv 1) pa_nil))))) (pv 1) (nomark _)))) (fun _ _ _ _ _ => by exact (pv 3)))))), ?_⟩
    refine q_asg (ev_op (ev_op (ev_lenS (ev_var rfl) (by omega)) (ev_lenS (ev_var rfl) (by omega)) rv_I0) ev_c rv_I0) fun H1 e1 => ?_
    refine s_retL (el_lcR (fun i => decide (cut W (some (i : Int)) (some ((i : Int) + (T.length : Int))) = T)) vN (ea_cons (ev_var rfl) ea_nil) ⟨by omega, by omega⟩ (fun x => rfl)
      (fun i H2 e2 hi => et_test (ev_op (ev_slS (ev_var rfl) (eo_some (ev_var rfl)) (eo_some (ev_op (ev_var rfl) (ev_lenS (ev_var rfl) (by omega)) rv_I0)) (by omega)) (ev_var rfl) rv_eqS))
      (fun i H2 e2 hi _ => ev_var rfl)) fun p H2 hp e2 h2 => k.go e1 hp e2 ?_
    rw [h2]
    unfold given placesF
    congr 4
    · funext i
      rw [show ((i : Int) + (T.length : Int)) = ((i + T.length : Nat) : Int) by omega, cut_mid, Nat.add_sub_cancel_left]
    · congr 1
      omega

abbrev s_is_number : Stmt := topS 12
abbrev nm_is_number : List Str := ["thing"]
theorem sc_is_number : FnScope nm_is_number ["thing"] (defScope s_is_number) := ⟨rfl, rfl, rfl, by decide +kernel, rfl, by decide +kernel, by decide +kernel⟩
theorem ok_is_number {f : Addr} {fd : FuncData} (F : Fun K "is_number" "is_number" s_is_number f fd) (B : Bl mg) :
    FnOk P w K mg base (L2.CX P w) 1 f fd ["thing"] (sp_is_number) := by
  refine F.okX sc_is_number (fun vs H Q E h => ?_) (fun cdv A outer s H vs Q E hr h => ?_)
  · obtain ⟨v, n, rfl, hT, k⟩ := h
    first | rfl | (rw [List.length_cons, hl]; rfl)
  · obtain ⟨v, n, rfl, hT, k⟩ := h
    refine ⟨_, (pss_one (ps_ret (pe_and (pe_callB call_isi (by rfl) B.isinstance (by decide +kernel) (pa_cons (pv 0) (pa_cons (pe_bltn (v := .ty "int") (by rfl) B.int_ (by decide +kernel) rfl) pa_nil))) (pe_and (pe_not (pe_callB call_isi (by rfl) B.isinstance (by decide +kernel) (pa_cons (pv 0) (pa_cons (pe_bltn (v := .ty "bool") (by rfl) B.bool_ (by decide +kernel) rfl) pa_nil)))) (pe_one (pe_cmpR op_ge (pv 0) pe_int (nomark _))))))), ?_⟩
    cases hT with
    | str l hl => exact s_ret (ev_andV (b := false) (ev_isi (ev_var rfl) (.str l hl) (b := false) (by decide +kernel)) fun h => nomatch h) (fun H1 e1 => k.go e1)
    | non => exact s_ret (ev_andV (b := false) (ev_isi (ev_var rfl) .non (b := false) (by decide +kernel)) fun h => nomatch h) (fun H1 e1 => k.go e1)
    | bl b => exact s_ret (ev_andV (ev_isi (ev_var rfl) (.bl b) (b := true) (by decide +kernel)) fun _ => ev_andV (b := true) (ev_notV (ev_isi (ev_var rfl) (.bl b) (b := true) (by decide +kernel))) fun h => nomatch h) (fun H1 e1 => k.go e1)
    | int i => exact s_ret (ev_is (ev_andV (ev_isi (ev_var rfl) (.int i) (b := true) (by decide +kernel)) fun _ => ev_andV (ev_notV (ev_isi (ev_var rfl) (.int i) (b := false) (by decide +kernel))) fun _ => ev_op (ev_var rfl) ev_c rv_I0) rfl) (fun H1 e1 => k.go e1)
    | lst q => exact s_ret (ev_andV (b := false) (ev_isi (ev_var rfl) (.lst q) (b := false) (by decide +kernel)) fun h => nomatch h) (fun H1 e1 => k.go e1)
    | tup q => exact s_ret (ev_andV (b := false) (ev_isi (ev_var rfl) (.tup q) (b := false) (by decide +kernel)) fun h => nomatch h) (fun H1 e1 => k.go e1)
    | dK q => exact s_ret (ev_andV (b := false) (ev_isi (ev_var rfl) (.dK q) (b := false) (by decide +kernel)) fun h => nomatch h) (fun H1 e1 => k.go e1)

abbrev s_Piece___init : Stmt := inClass (topS 15) 0
abbrev nm_Piece___init : List Str := ["self", "place"]
theorem sc_Piece___init : FnScope nm_Piece___init ["self", "place"] (defScope s_Piece___init) := ⟨rfl, rfl, rfl, by decide +kernel, rfl, by decide +kernel, by decide +kernel⟩
theorem ok_Piece___init {f : Addr} {fd : FuncData} {a_Piece : Addr} (F : Fun K "__init__" "Piece.__init__" s_Piece___init f fd) (B : Bl mg) (k_Piece : Kl K mg "Piece" a_Piece ["place", "begin", "end"]) :
    FnOk P w K mg base (L2.CX P w) 1 f fd ["self", "place"] (sp_init a_Piece 1 fsP) := by
  refine F.okX sc_Piece___init (fun vs H Q E h => ?_) (fun cdv A outer s H vs Q E hr h => ?_)
  · obtain ⟨x, dx, us, rfl, hl, hx, k⟩ := h
    first | rfl | (rw [List.length_cons, hl]; rfl)
  · obtain ⟨x, dx, us, rfl, hl, hx, k⟩ := h
    refine ⟨_, (pss_one (ps_fld (pv 0) (pv 1) rfl)), ?_⟩
    obtain ⟨v, rfl⟩ := len1 hl
    exact ⟨_, rfl, _, rfl, x, a_Piece, dx, [], rfl, hx, k_Piece.cl, k_Piece.nF _ (by decide), by decide, k _ (fun b o hb h => by rw [upd_ne hb]; exact h) upd_same⟩

abbrev s_Missing___init : Stmt := inClass (topS 16) 0
abbrev nm_Missing___init : List Str := ["self", "begin", "end"]
theorem sc_Missing___init : FnScope nm_Missing___init ["self", "begin", "end"] (defScope s_Missing___init) := ⟨rfl, rfl, rfl, by decide +kernel, rfl, by decide +kernel, by decide +kernel⟩
theorem ok_Missing___init {f : Addr} {fd : FuncData} {a_Missing : Addr} (F : Fun K "__init__" "Missing.__init__" s_Missing___init f fd) (B : Bl mg) (k_Missing : Kl K mg "Missing" a_Missing ["place", "begin", "end"]) :
    FnOk P w K mg base (L2.CX P w) 1 f fd ["self", "begin", "end"] (sp_init a_Missing 2 fsM) := by
  refine F.okX sc_Missing___init (fun vs H Q E h => ?_) (fun cdv A outer s H vs Q E hr h => ?_)
  · obtain ⟨x, dx, us, rfl, hl, hx, k⟩ := h
    first | rfl | (rw [List.length_cons, hl]; rfl)
  · obtain ⟨x, dx, us, rfl, hl, hx, k⟩ := h
    refine ⟨_, (pss_cons (ps_fld (pv 0) (pv 1) rfl)
      (pss_one (ps_fld (pv 0) (pv 2) rfl))), ?_⟩
    obtain ⟨v, v2, rfl⟩ := len2 hl
    refine ⟨_, rfl, _, rfl, x, a_Missing, dx, [], rfl, hx, k_Missing.cl, k_Missing.nF _ (by decide), by simp, ?_⟩
    exact ⟨_, rfl, _, rfl, x, a_Missing, dx, [("begin", v)], rfl, upd_same, k_Missing.cl, k_Missing.nF _ (by decide), by simp, k _ (fun b o hb h => by rw [upd_ne hb, upd_ne hb]; exact h) upd_same⟩

abbrev s_law_cell_at : Stmt := topS 20
abbrev nm_law_cell_at : List Str := ["_law_script", "_law_k"]
theorem sc_law_cell_at : FnScope nm_law_cell_at ["_law_script", "_law_k"] (defScope s_law_cell_at) := ⟨rfl, rfl, rfl, by decide +kernel, rfl, by decide +kernel, by decide +kernel⟩
theorem ok_law_cell_at {f : Addr} {fd : FuncData} (F : Fun K "_law_cell_at" "_law_cell_at" s_law_cell_at f fd) (B : Bl mg) :
    FnOk P w K mg base (L2.CX P w) 1 f fd ["_law_script", "_law_k"] (sp_cell K) := by
  refine F.okX sc_law_cell_at (fun vs H Q E h => ?_) (fun cdv A outer s H vs Q E hr h => ?_)
  · obtain ⟨a, ns, i, rfl, hS, k⟩ := h
    first | rfl | (rw [List.length_cons, hl]; rfl)
  · obtain ⟨a, ns, i, rfl, hS, k⟩ := h
    refine ⟨_, (pss_cons (ps_if (pt_cmpR op_lt (pv 1) (pe_callB call_len_seq (by rfl) B.len PySem.boot_len (pa_cons (pv 0) pa_nil)) (nomark _)) (pss_one (ps_ret (pe_ix ix_list (pv 0) (pv 1) (fun _ _ => rfl)))) pss_nil)
      (pss_one (ps_ret pe_int))), ?_⟩
    refine q_when (et_test (ev_op (ev_var rfl) (ev_len (K := K) (ev_var rfl) hS) rv_I0)) (fun hb H1 e1 => ?_) (fun hb H1 e1 => ?_)
    · have hi : i < ns.length := by
        have := of_decide_eq_true hb
        rw [List.length_map] at this
        omega
      refine s_ret (v := .int (cellAt ns i)) (ev_op (ev_var rfl) (ev_var rfl) (rv_ixL (K := K) (ex_l e1 hS) ?_)) (fun H2 e2 => k.go (e1.trans e2))
      rw [atI_nat (j := i) (v := .int (cellAt ns i))]
      rw [List.getElem?_map]
      unfold cellAt
      rw [List.getD_eq_getElem?_getD, List.getElem?_eq_getElem hi]
      rfl
    · refine s_ret (v := .int (cellAt ns i)) (ev_is ev_c ?_) (fun H2 e2 => k.go (e1.trans e2))
      have hi : ns.length ≤ i := by
        have := of_decide_eq_false hb
        rw [List.length_map] at this
        omega
      unfold cellAt
      rw [List.getD_eq_getElem?_getD, List.getElem?_eq_none hi]
      rfl

abbrev s_law_draw : Stmt := topS 21
abbrev nm_law_draw : List Str := ["_law_cell", "_law_k", "_law_most", "_law_primes"]
theorem sc_law_draw : FnScope nm_law_draw ["_law_cell", "_law_k", "_law_most"] (defScope s_law_draw) := ⟨rfl, rfl, rfl, by decide +kernel, rfl, by decide +kernel, by decide +kernel⟩
theorem ok_law_draw {f : Addr} {fd : FuncData} (F : Fun K "_law_draw" "_law_draw" s_law_draw f fd) (B : Bl mg) :
    FnOk P w K mg base (L2.CX P w) 1 f fd ["_law_cell", "_law_k", "_law_most"] (sp_draw) := by
  refine F.okX sc_law_draw (fun vs H Q E h => ?_) (fun cdv A outer s H vs Q E hr h => ?_)
  · obtain ⟨c, i, m, rfl, hc, hi, hm, k⟩ := h
    first | rfl | (rw [List.length_cons, hl]; rfl)
  · obtain ⟨c, i, m, rfl, hc, hi, hm, k⟩ := h
    refine ⟨_, (pss_cons (ps_set (i := 3) sc_law_draw.nd rfl (.inl rfl) (pe_tup (pa_cons pe_int (pa_cons pe_int (pa_cons pe_int (pa_cons pe_int (pa_cons pe_int (pa_cons pe_int (pa_cons pe_int (pa_cons pe_int (pa_cons pe_int (pa_cons pe_int (pa_cons pe_int (pa_cons pe_int (pa_cons pe_int (pa_cons pe_int (pa_cons pe_int (pa_cons pe_int pa_nil))))))))))))))))))
      (pss_one (ps_ret (pe_op op_mod (pe_op op_mod (pe_op op_add (pe_op op_mulV (pv 0) pe_int) (pe_op op_mulV (pv 1) pe_int)) (pe_ix ix_tup (pv 3) (pe_op op_mod (pv 1) pe_int) (fun _ _ => rfl))) (pv 2))))), ?_⟩
    refine q_asgU (xs := primes.map V.int) (eu_tup (by repeat' (first | exact ea_nil | refine ea_cons ev_c ?_)) (by decide)) fun p H1 hp e1 h1 => ?_
    refine s_ret (v := .int (drawF c i m)) (ev_op (ev_op (ev_op (ev_op (ev_var rfl) ev_c (rv_I (hc.mulOk (Lim.small (by decide) (by decide)) (by decide)))) (ev_op (ev_var rfl) ev_c (rv_I ((Lim.small (i := (i : Int)) (by omega) (by omega)).mulOk (Lim.small (by decide) (by decide)) (by decide)))) rv_I0)
      (ev_op (ev_var rfl) (ev_op (ev_var rfl) ev_c (rv_I (by decide))) (rv_ixT (K := K) (st_of h1) (v := .int (primes.getD (i % 16) 1)) ?_)) (rv_I (primes_pos i))) (ev_var rfl) (rv_I hm)) (fun H2 e2 => k.go (e1.trans e2))
    have e : ((i : Int) % 16) = ((i % 16 : Nat) : Int) := by omega
    rw [e, atI_nat (j := i % 16)]
    have hlt : i % 16 < primes.length := Nat.mod_lt _ (by decide)
    rw [List.getElem?_map, List.getD_eq_getElem?_getD, List.getElem?_eq_getElem hlt]
    rfl

abbrev s_law_whole : Stmt := topS 25
abbrev nm_law_whole : List Str := ["_law_number_here"]
theorem sc_law_whole : FnScope nm_law_whole ["_law_number_here"] (defScope s_law_whole) := ⟨rfl, rfl, rfl, by decide +kernel, rfl, by decide +kernel, by decide +kernel⟩
theorem ok_law_whole {f : Addr} {fd : FuncData} (F : Fun K "_law_whole" "_law_whole" s_law_whole f fd) (B : Bl mg) :
    FnOk P w K mg base (L2.CX P w) 1 f fd ["_law_number_here"] (sp_whole) := by
  refine F.okX sc_law_whole (fun vs H Q E h => ?_) (fun cdv A outer s H vs Q E hr h => ?_)
  · obtain ⟨v, n, rfl, hT, k⟩ := h
    first | rfl | (rw [List.length_cons, hl]; rfl)
  · obtain ⟨v, n, rfl, hT, k⟩ := h
    refine ⟨_, (pss_one (ps_ret (pe_and (pe_callB call_isi (by rfl) B.isinstance (by decide +kernel) (pa_cons (pv 0) (pa_cons (pe_bltn (v := .ty "int") (by rfl) B.int_ (by decide +kernel) rfl) pa_nil))) (pe_one (pe_not (pe_callB call_isi (by rfl) B.isinstance (by decide +kernel) (pa_cons (pv 0) (pa_cons (pe_bltn (v := .ty "bool") (by rfl) B.bool_ (by decide +kernel) rfl) pa_nil)))))))), ?_⟩
    cases hT with
    | str l hl => exact s_ret (ev_andV (b := true) (ev_isi (ev_var rfl) (.str l hl) (b := false) (by decide +kernel)) fun h => nomatch h) (fun H1 e1 => k.go e1)
    | non => exact s_ret (ev_andV (b := true) (ev_isi (ev_var rfl) .non (b := false) (by decide +kernel)) fun h => nomatch h) (fun H1 e1 => k.go e1)
    | bl b => exact s_ret (ev_andV (ev_isi (ev_var rfl) (.bl b) (b := true) (by decide +kernel)) fun _ => ev_notV (ev_isi (ev_var rfl) (.bl b) (b := true) (by decide +kernel))) (fun H1 e1 => k.go e1)
    | int i => exact s_ret (ev_andV (ev_isi (ev_var rfl) (.int i) (b := true) (by decide +kernel)) fun _ => ev_notV (ev_isi (ev_var rfl) (.int i) (b := false) (by decide +kernel))) (fun H1 e1 => k.go e1)
    | lst q => exact s_ret (ev_andV (b := true) (ev_isi (ev_var rfl) (.lst q) (b := false) (by decide +kernel)) fun h => nomatch h) (fun H1 e1 => k.go e1)
    | tup q => exact s_ret (ev_andV (b := true) (ev_isi (ev_var rfl) (.tup q) (b := false) (by decide +kernel)) fun h => nomatch h) (fun H1 e1 => k.go e1)
    | dK q => exact s_ret (ev_andV (b := true) (ev_isi (ev_var rfl) (.dK q) (b := false) (by decide +kernel)) fun h => nomatch h) (fun H1 e1 => k.go e1)

abbrev s_law_says : Stmt := topS 26
abbrev nm_law_says : List Str := ["_law_said", "_law_due_here"]
theorem sc_law_says : FnScope nm_law_says ["_law_said", "_law_due_here"] (defScope s_law_says) := ⟨rfl, rfl, rfl, by decide +kernel, rfl, by decide +kernel, by decide +kernel⟩
theorem ok_law_says {f : Addr} {fd : FuncData} (F : Fun K "_law_says" "_law_says" s_law_says f fd) (B : Bl mg) :
    FnOk P w K mg base (L2.CX P w) 1 f fd ["_law_said", "_law_due_here"] (sp_says) := by
  refine F.okX sc_law_says (fun vs H Q E h => ?_) (fun cdv A outer s H vs Q E hr h => ?_)
  · obtain ⟨b, d, rfl, k⟩ := h
    first | rfl | (rw [List.length_cons, hl]; rfl)
  · obtain ⟨b, d, rfl, k⟩ := h
    refine ⟨_, (pss_one (ps_ret (pe_and (pe_callB call_isi (by rfl) B.isinstance (by decide +kernel) (pa_cons (pv 0) (pa_cons (pe_bltn (v := .ty "bool") (by rfl) B.bool_ (by decide +kernel) rfl) pa_nil))) (pe_one (pe_cmpR op_eq (pv 0) (pv 1) (nomark _)))))), ?_⟩
    refine s_ret (v := .bl (b == d)) (ev_is (ev_andV (ev_isi (ev_var rfl) (.bl b) (b := true) (by decide +kernel)) fun _ => ev_op (ev_var rfl) (ev_var rfl) (rv_eq rfl)) ?_) (fun H1 e1 => k.go e1)
    cases b <;> cases d <;> rfl

abbrev s_law_stands : Stmt := topS 27
abbrev nm_law_stands : List Str := ["_law_word_here", "_law_text"]
theorem sc_law_stands : FnScope nm_law_stands ["_law_word_here", "_law_text"] (defScope s_law_stands) := ⟨rfl, rfl, rfl, by decide +kernel, rfl, by decide +kernel, by decide +kernel⟩
theorem ok_law_stands {f : Addr} {fd : FuncData} (F : Fun K "_law_stands" "_law_stands" s_law_stands f fd) (B : Bl mg) :
    FnOk P w K mg base (L2.CX P w) 1 f fd ["_law_word_here", "_law_text"] (sp_stands) := by
  refine F.okX sc_law_stands (fun vs H Q E h => ?_) (fun cdv A outer s H vs Q E hr h => ?_)
  · obtain ⟨W, T, rfl, k⟩ := h
    first | rfl | (rw [List.length_cons, hl]; rfl)
  · obtain ⟨W, T, rfl, k⟩ := h
    refine ⟨_, (pss_one (ps_ret (pe_cmpR op_in_str (pv 1) (pv 0) (by rfl)))), ?_⟩
    exact s_ret (ev_op (ev_var rfl) (ev_var rfl) rv_in) (fun H1 e1 => k.go e1)

abbrev s_check_word : Stmt := topS 8
abbrev nm_check_word : List Str := ["word"]
theorem sc_check_word : FnScope nm_check_word ["word"] (defScope s_check_word) := ⟨rfl, rfl, rfl, by decide +kernel, rfl, by decide +kernel, by decide +kernel⟩
theorem ok_check_word {f : Addr} {fd : FuncData} {a_BadWord : Addr} (F : Fun K "check_word" "check_word" s_check_word f fd) (B : Bl mg) (c_is_text : Cal P w K mg base 1 "is_text" ["thing"] (sp_is_text)) (e_BadWord : Er K mg "BadWord" (a_BadWord) bmE) :
    FnOk P w K mg base (L2.CX P w) 2 f fd ["word"] (sp_check a_BadWord) := by
  refine F.okX sc_check_word (fun vs H Q E h => ?_) (fun cdv A outer s H vs Q E hr h => ?_)
  · obtain ⟨v, n, rfl, hT, k1, k2⟩ := h
    first | rfl | (rw [List.length_cons, hl]; rfl)
  · obtain ⟨v, n, rfl, hT, k1, k2⟩ := h
    refine ⟨_, (pss_one (ps_if (pt_not (pt_val (pe_cal c_is_text (hr.mono (by decide)) (by rfl) (passes_call (takes_of rfl rfl rfl rfl) (fun _ _ _ _ h => h)) (pa_cons (pv 0) pa_nil)))) (pss_one (ps_raise rfl (takes_of rfl rfl rfl rfl) (pmk_own PySem.F.excBase_ValueError e_BadWord.x e_BadWord.g e_BadWord.k (raises_own e_BadWord.b e_BadWord.t) rfl))) pss_nil)), ?_⟩
    refine s_when (et_not (et_B (ev_call (ea_cons (ev_var rfl) ea_nil) (z := .bl (isText v)) ?_))) (fun hb H1 e1 => ?_) (fun hb H1 e1 => ?_)
    · exact fun H1 e1 Q q E => ⟨v, n, rfl, hT.ex e1, q⟩
    · exact k2 (by simpa using hb) H1 e1
    · exact (k1 (by simpa using hb)).go e1

abbrev s_check_text : Stmt := topS 9
abbrev nm_check_text : List Str := ["text"]
theorem sc_check_text : FnScope nm_check_text ["text"] (defScope s_check_text) := ⟨rfl, rfl, rfl, by decide +kernel, rfl, by decide +kernel, by decide +kernel⟩
theorem ok_check_text {f : Addr} {fd : FuncData} {a_BadText : Addr} (F : Fun K "check_text" "check_text" s_check_text f fd) (B : Bl mg) (c_is_text : Cal P w K mg base 1 "is_text" ["thing"] (sp_is_text)) (e_BadText : Er K mg "BadText" (a_BadText) bmE) :
    FnOk P w K mg base (L2.CX P w) 2 f fd ["text"] (sp_check a_BadText) := by
  refine F.okX sc_check_text (fun vs H Q E h => ?_) (fun cdv A outer s H vs Q E hr h => ?_)
  · obtain ⟨v, n, rfl, hT, k1, k2⟩ := h
    first | rfl | (rw [List.length_cons, hl]; rfl)
  · obtain ⟨v, n, rfl, hT, k1, k2⟩ := h
    refine ⟨_, (pss_one (ps_if (pt_not (pt_val (pe_cal c_is_text (hr.mono (by decide)) (by rfl) (passes_call (takes_of rfl rfl rfl rfl) (fun _ _ _ _ h => h)) (pa_cons (pv 0) pa_nil)))) (pss_one (ps_raise rfl (takes_of rfl rfl rfl rfl) (pmk_own PySem.F.excBase_ValueError e_BadText.x e_BadText.g e_BadText.k (raises_own e_BadText.b e_BadText.t) rfl))) pss_nil)), ?_⟩
    refine s_when (et_not (et_B (ev_call (ea_cons (ev_var rfl) ea_nil) (z := .bl (isText v)) ?_))) (fun hb H1 e1 => ?_) (fun hb H1 e1 => ?_)
    · exact fun H1 e1 Q q E => ⟨v, n, rfl, hT.ex e1, q⟩
    · exact k2 (by simpa using hb) H1 e1
    · exact (k1 (by simpa using hb)).go e1

abbrev s_Piece_shows : Stmt := inClass (topS 15) 1
abbrev nm_Piece_shows : List Str := ["self", "word", "text"]
theorem sc_Piece_shows : FnScope nm_Piece_shows ["self", "word", "text"] (defScope s_Piece_shows) := ⟨rfl, rfl, rfl, by decide +kernel, rfl, by decide +kernel, by decide +kernel⟩
theorem ok_Piece_shows {f : Addr} {fd : FuncData} {a_Piece : Addr} (F : Fun K "shows" "Piece.shows" s_Piece_shows f fd) (B : Bl mg) (c_places_of : Cal P w K mg base 1 "places_of" ["word", "text"] (sp_places_of)) (c_is_number : Cal P w K mg base 1 "is_number" ["thing"] (sp_is_number)) (k_Piece : Kl K mg "Piece" a_Piece ["place", "begin", "end"]) :
    FnOk P w K mg base (L2.CX P w) 2 f fd ["self", "word", "text"] (sp_pshows a_Piece) := by
  refine F.okX sc_Piece_shows (fun vs H Q E h => ?_) (fun cdv A outer s H vs Q E hr h => ?_)
  · obtain ⟨x, dx, i, W, T, rfl, hx, hW, hT, k⟩ := h
    first | rfl | (rw [List.length_cons, hl]; rfl)
  · obtain ⟨x, dx, i, W, T, rfl, hx, hW, hT, k⟩ := h
    refine ⟨_, (pss_one (ps_ret (pe_and (pe_cal c_is_number (hr.mono (by decide)) (by rfl) (passes_call (takes_of rfl rfl rfl rfl) (fun _ _ _ _ h => h)) (pa_cons (pe_fld (pv 0) rfl) pa_nil)) (pe_one (pe_cmpR op_in_seq (pe_fld (pv 0) rfl) (pe_cal c_places_of (hr.mono (by decide)) (by rfl) (passes_call (takes_of rfl rfl rfl rfl) (fun _ _ _ _ h => h)) (pa_cons (pv 1) (pa_cons (pv 2) pa_nil))) (by rfl)))))), ?_⟩
    refine s_ret (v := .bl (pieceShows i W T)) (ev_is (ev_andV (ev_call (ea_cons (ev_fld (K := K) (v := .int i) (ev_var rfl) hx k_Piece.cl (k_Piece.nF _ (by decide)) rfl) ea_nil) (z := .bl (isNum (.int i))) ?_) fun _ => ev_opL (ev_fld (K := K) (v := .int i) (ev_var rfl) hx k_Piece.cl (k_Piece.nF _ (by decide)) rfl) (el_call (ea_cons (ev_var rfl) (ea_cons (ev_var rfl) ea_nil)) (xs := (placesF W T).map vN) ?_) (fun p H1 hp e1 => rv_isL (K := K) (sq_of hp) rfl ?_)) ?_) (fun H1 e1 => k.go e1)
    · exact fun H1 e1 Q q E => ⟨_, _, rfl, .int i, q⟩
    · exact fun H1 e1 Q q E => ⟨W, T, rfl, hW, hT, q⟩
    · rw [List.all_eq_true]
      intro y hy
      obtain ⟨n, _, rfl⟩ := List.mem_map.mp hy
      rfl
    · rw [inV_nat]
      unfold isNum pieceShows
      simp

abbrev s_Missing_shows : Stmt := inClass (topS 16) 1
abbrev nm_Missing_shows : List Str := ["self", "word", "text", "part"]
theorem sc_Missing_shows : FnScope nm_Missing_shows ["self", "word", "text"] (defScope s_Missing_shows) := ⟨rfl, rfl, rfl, by decide +kernel, rfl, by decide +kernel, by decide +kernel⟩
theorem ok_Missing_shows {f : Addr} {fd : FuncData} {a_Missing : Addr} (F : Fun K "shows" "Missing.shows" s_Missing_shows f fd) (B : Bl mg) (c_is_number : Cal P w K mg base 1 "is_number" ["thing"] (sp_is_number)) (k_Missing : Kl K mg "Missing" a_Missing ["place", "begin", "end"]) :
    FnOk P w K mg base (L2.CX P w) 2 f fd ["self", "word", "text"] (sp_mshows a_Missing) := by
  refine F.okX sc_Missing_shows (fun vs H Q E h => ?_) (fun cdv A outer s H vs Q E hr h => ?_)
  · obtain ⟨x, dx, b, e, W, T, rfl, hx, hW, hT, k⟩ := h
    first | rfl | (rw [List.length_cons, hl]; rfl)
  · obtain ⟨x, dx, b, e, W, T, rfl, hx, hW, hT, k⟩ := h
    refine ⟨_, (pss_cons (ps_if (PW.pt (pw_or (pt_not (pt_val (pe_cal c_is_number (hr.mono (by decide)) (by rfl) (passes_call (takes_of rfl rfl rfl rfl) (fun _ _ _ _ h => h)) (pa_cons (pe_fld (pv 0) rfl) pa_nil)))) (pw_or (pt_not (pt_val (pe_cal c_is_number (hr.mono (by decide)) (by rfl) (passes_call (takes_of rfl rfl rfl rfl) (fun _ _ _ _ h => h)) (pa_cons (pe_fld (pv 0) rfl) pa_nil)))) (pw_or1 (pt_not (pt_chain op_lt op_le (pe_fld (pv 0) rfl) (pe_fld (pv 0) rfl) (pe_callB call_len_str (by rfl) B.len PySem.boot_len (pa_cons (pv 2) pa_nil)))))))) (pss_one (ps_ret pe_bl)) pss_nil)
      (pss_cons (ps_set (i := 3) sc_Missing_shows.nd rfl (.inl rfl) (pe_slice sl_str (pv 2) (po_some (pe_fld (pv 0) rfl)) (po_some (pe_fld (pv 0) rfl))))
      (pss_one (ps_ret (pe_and (pe_cmpR op_notin_str (pv 3) (pv 1) (by rfl)) (pe_and (pe_cmpR op_in_str (pe_slice sl_str (pv 3) (po_some pe_int) po_none) (pv 1) (by rfl)) (pe_one (pe_cmpR op_in_str (pe_slice sl_str (pv 3) po_none (po_some (pe_un un_neg pe_int))) (pv 1) (by rfl))))))))), ?_⟩
    have nb : ∀ i : Int, SpV sp_is_number [.int i] H (.bl (isNum (.int i))) := fun i H1 e1 Q q E => ⟨_, _, rfl, .int i, q⟩
    have fb : ∀ H1 σ, Ex H H1 → σ[0]? = some (some (V.ref x)) → Ev (tFld K (tVar 0) "begin") σ H1 (.int b) := fun H1 σ e1 h => ev_fld (ev_var h) (e1 _ _ hx) k_Missing.cl (k_Missing.nF _ (by decide)) rfl
    have fe : ∀ H1 σ, Ex H H1 → σ[0]? = some (some (V.ref x)) → Ev (tFld K (tVar 0) "end") σ H1 (.int e) := fun H1 σ e1 h => ev_fld (ev_var h) (e1 _ _ hx) k_Missing.cl (k_Missing.nF _ (by decide)) rfl
    refine q_when (et_or (et_not (et_B (ev_call (ea_cons (fb H _ (Ex.refl H) rfl) ea_nil) (nb b)))) fun _ => et_or (et_not (et_B (ev_call (ea_cons (fe H _ (Ex.refl H) rfl) ea_nil) (nb e)))) fun _ => et_not (et_test (ev_chain2 (fb H _ (Ex.refl H) rfl) (fe H _ (Ex.refl H) rfl) rv_I0 (ev_lenS (ev_var rfl) (by omega)) rv_I0))) (fun hb H1 e1 => ?_) (fun hb H1 e1 => ?_)
    · refine s_ret ev_c fun H2 e2 => ?_
      have : missShows b e W T = false := by
        unfold missShows
        rw [isNum_int, isNum_int] at hb
        have h2 : (decide (0 ≤ b) && decide (0 ≤ e) && (decide (b < e) && decide (e ≤ (T.length : Int)))) = false := by
          revert hb
          cases decide (0 ≤ b) <;> cases decide (0 ≤ e) <;> cases decide (b < e) <;> cases decide (e ≤ (T.length : Int)) <;> simp
        rw [h2]
        rfl
      rw [← this]
      exact k.go (e1.trans e2)
    · have h2 : (decide (0 ≤ b) && decide (0 ≤ e) && (decide (b < e) && decide (e ≤ (T.length : Int)))) = true := by
        rw [isNum_int, isNum_int] at hb
        revert hb
        cases decide (0 ≤ b) <;> cases decide (0 ≤ e) <;> cases decide (b < e) <;> cases decide (e ≤ (T.length : Int)) <;> simp
      have l0 := cut_len T (some b) (some e)
      refine q_asg (ev_slS (ev_var rfl) (eo_some (fb H1 _ e1 rfl)) (eo_some (fe H1 _ e1 rfl)) (by omega)) fun H2 e2 => ?_
      refine s_ret (v := .bl (missShows b e W T)) (ev_is (ev_andV (ev_op (ev_var rfl) (ev_var rfl) rv_nin) fun _ => ev_andV (ev_op (ev_slS (ev_var rfl) (eo_some ev_c) eo_none (by omega)) (ev_var rfl) rv_in) fun _ => ev_op (ev_slS (ev_var rfl) eo_none (eo_some (ev_un ev_c ru_neg)) (by omega)) (ev_var rfl) rv_in) ?_) fun H3 e3 => k.go ((e1.trans e2).trans e3)
      unfold missShows
      rw [h2]
      rfl

abbrev s_law_number : Stmt := topS 22
abbrev nm_law_number : List Str := ["_law_cell", "_law_k", "_law_limit"]
theorem sc_law_number : FnScope nm_law_number ["_law_cell", "_law_k", "_law_limit"] (defScope s_law_number) := ⟨rfl, rfl, rfl, by decide +kernel, rfl, by decide +kernel, by decide +kernel⟩
theorem ok_law_number {f : Addr} {fd : FuncData} (F : Fun K "_law_number" "_law_number" s_law_number f fd) (B : Bl mg) (c_law_draw : Cal P w K mg base 1 "_law_draw" ["_law_cell", "_law_k", "_law_most"] (sp_draw)) :
    FnOk P w K mg base (L2.CX P w) 2 f fd ["_law_cell", "_law_k", "_law_limit"] (sp_number) := by
  refine F.okX sc_law_number (fun vs H Q E h => ?_) (fun cdv A outer s H vs Q E hr h => ?_)
  · obtain ⟨c, i, m, rfl, hc, hi, hm, k⟩ := h
    first | rfl | (rw [List.length_cons, hl]; rfl)
  · obtain ⟨c, i, m, rfl, hc, hi, hm, k⟩ := h
    refine ⟨_, (pss_cons (ps_if (pt_cmpR op_ge (pv 0) (pe_op op_pow pe_int pe_int) (nomark _)) (pss_one (ps_ret (pe_op op_mod (pe_op op_fdiv (pe_op op_sub (pv 0) (pe_op op_pow pe_int pe_int)) (pe_ix ix_tup (pe_tup (pa_cons pe_int (pa_cons pe_int (pa_cons pe_int (pa_cons pe_int (pa_cons pe_int pa_nil)))))) (pe_op op_mod (pv 1) pe_int) (fun _ _ => rfl))) (pv 2)))) pss_nil)
      (pss_one (ps_ret (pe_op op_mod (pe_cal c_law_draw (hr.mono (by decide)) (by rfl) (passes_call (takes_of rfl rfl rfl rfl) (fun _ _ _ _ h => h)) (pa_cons (pe_op op_mulV (pe_op op_add (pv 0) (pe_op op_mulV pe_int (pv 1))) (pe_op op_add (pe_op op_add (pv 0) (pe_op op_mulV pe_int (pv 1))) pe_int)) (pa_cons (pe_op op_add (pe_op op_mod (pv 1) pe_int) pe_int) (pa_cons pe_int pa_nil)))) (pv 2))))), ?_⟩
    refine q_when (et_test (ev_op (ev_var rfl) (ev_op ev_c ev_c (rv_I ⟨by decide, by decide, by decide⟩)) rv_I0)) (fun hb H1 e1 => ?_) (fun hb H1 e1 => ?_)
    · have hix : atI ([1, 7, 49, 343, 2401].map V.int) ((i : Int) % 5) = some (.int (([1, 7, 49, 343, 2401] : List Int).getD (i % 5) 1)) := by
        have e : ((i : Int) % 5) = ((i % 5 : Nat) : Int) := by omega
        have hlt : i % 5 < ([1, 7, 49, 343, 2401] : List Int).length := Nat.mod_lt _ (by decide)
        rw [e, atI_nat (j := i % 5)]
        rw [List.getElem?_map, List.getD_eq_getElem?_getD, List.getElem?_eq_getElem hlt]
        rfl
      have hd : CDiv (c - 10 ^ 18) (([1, 7, 49, 343, 2401] : List Int).getD (i % 5) 1) := by
        have h : ∀ j : Nat, j < 5 → CDiv (c - 10 ^ 18) (([1, 7, 49, 343, 2401] : List Int).getD j 1) := by
          unfold CDiv
          decide
        exact h _ (Nat.mod_lt _ (by decide))
      refine s_ret (ev_op (ev_op (ev_op (ev_var rfl) (ev_op ev_c ev_c (rv_I ⟨by decide, by decide, by decide⟩)) rv_I0) (ev_opU1 (eu_tup (vs := [1, 7, 49, 343, 2401].map V.int) (by repeat' (first | exact ea_nil | refine ea_cons ev_c ?_)) (by decide)) (ev_op (ev_var rfl) ev_c (rv_I (by decide))) (fun p H2 h2 e2 => rv_ixT (K := K) (st_of h2) hix)) (rv_I hd)) (ev_var rfl) (rv_I hm)) (fun H2 e2 => (k _ ?_ ?_).go (e1.trans e2))
      · exact Int.emod_nonneg _ (by omega)
      · exact Int.emod_lt_of_pos _ hm
    · have l1 : Lim 1048578 (c + 977 * (i : Int)) := (hc.add ((Lim.small (i := 977 * (i : Int)) (by omega) (by omega)).mono (by decide)))
      have l2 : Lim 1048579 (c + 31 * (i : Int) + 5) := (hc.add ((Lim.small (i := 31 * (i : Int)) (by omega) (by omega)).mono (by decide))).add ((Lim.small (i := 5) (by omega) (by omega)).mono (by decide))
      have s1 : ∀ z : Int, -1000 ≤ z → z ≤ 1000 → CMulV z (i : Int) := fun z z1 z2 => (Lim.small (i := z) (by omega) (by omega)).mulOk (Lim.small (i := (i : Int)) (by omega) (by omega)) (by decide)
      refine s_ret (ev_op (ev_call (ea_cons (ev_op (ev_op (ev_var rfl) (ev_op ev_c (ev_var rfl) (rv_I (s1 977 (by decide) (by decide)))) rv_I0) (ev_op (ev_op (ev_var rfl) (ev_op ev_c (ev_var rfl) (rv_I (s1 31 (by decide) (by decide)))) rv_I0) ev_c rv_I0) (rv_I (l1.mulOk l2 (by decide)))) (ea_cons (ev_op (ev_op (ev_var rfl) ev_c (rv_I (by decide))) ev_c rv_I0) (ea_cons ev_c ea_nil)))
        (z := .int (drawF ((c + 977 * (i : Int)) * (c + 31 * (i : Int) + 5)) (i % 9 + 1) 999983)) ?_) (ev_var rfl) (rv_I hm)) (fun H2 e2 => (k _ ?_ ?_).go (e1.trans e2))
      · exact fun H2 e2 Q q E => ⟨_, i % 9 + 1, _, by
          show [_, _, _] = [_, _, _]
          rw [show ((i % 9 + 1 : Nat) : Int) = (i : Int) % 9 + 1 by omega], (l1.mul l2).mono (by decide), by omega, by decide, q⟩
      · exact Int.emod_nonneg _ (by omega)
      · exact Int.emod_lt_of_pos _ hm

abbrev s_law_letters : Stmt := topS 23
abbrev nm_law_letters : List Str := ["_law_script", "_law_by"]
theorem sc_law_letters : FnScope nm_law_letters ["_law_script", "_law_by"] (defScope s_law_letters) := ⟨rfl, rfl, rfl, by decide +kernel, rfl, by decide +kernel, by decide +kernel⟩
theorem ok_law_letters {f : Addr} {fd : FuncData} (F : Fun K "_law_letters" "_law_letters" s_law_letters f fd) (B : Bl mg) (c_law_cell_at : Cal P w K mg base 1 "_law_cell_at" ["_law_script", "_law_k"] (sp_cell K)) (c_law_draw : Cal P w K mg base 1 "_law_draw" ["_law_cell", "_law_k", "_law_most"] (sp_draw)) :
    FnOk P w K mg base (L2.CX P w) 2 f fd ["_law_script", "_law_by"] (sp_letters K) := by
  refine F.okX sc_law_letters (fun vs H Q E h => ?_) (fun cdv A outer s H vs Q E hr h => ?_)
  · obtain ⟨a, ns, b, rfl, hS, hl, hb, k⟩ := h
    first | rfl | (rw [List.length_cons, hl]; rfl)
  · obtain ⟨a, ns, b, rfl, hS, hl, hb, k⟩ := h
    refine ⟨_, (pss_one (ps_ret (pe_ix ix_tup (pe_tup (pa_cons pe_str (pa_cons pe_str (pa_cons pe_str (pa_cons pe_str (pa_cons pe_str pa_nil)))))) (pe_cal c_law_draw (hr.mono (by decide)) (by rfl) (passes_call (takes_of rfl rfl rfl rfl) (fun _ _ _ _ h => h)) (pa_cons (pe_op op_add (pe_cal c_law_cell_at (hr.mono (by decide)) (by rfl) (passes_call (takes_of rfl rfl rfl rfl) (fun _ _ _ _ h => h)) (pa_cons (pv 0) (pa_cons pe_int pa_nil))) (pv 1)) (pa_cons pe_int (pa_cons pe_int pa_nil)))) (fun _ _ => rfl)))), ?_⟩
    have hd1 := draw_lo (c := cellAt ns 0 + b) (k := 6) (m := 5) (by decide)
    have hd2 := draw_hi (c := cellAt ns 0 + b) (k := 6) (m := 5) (by decide)
    have hix : atI (lsets.map vS) (drawF (cellAt ns 0 + b) 6 5) = some (vS (lettersF (cellAt ns 0 + b))) := by
      have e : drawF (cellAt ns 0 + b) 6 5 = ((drawF (cellAt ns 0 + b) 6 5).toNat : Int) := by omega
      have hlt : (drawF (cellAt ns 0 + b) 6 5).toNat < lsets.length := by
        show _ < 5
        omega
      rw [e, atI_nat (j := (drawF (cellAt ns 0 + b) 6 5).toNat)]
      unfold lettersF
      rw [List.getElem?_map, List.getD_eq_getElem?_getD, List.getElem?_eq_getElem hlt]
      rfl
    refine s_ret (ev_opU1 (eu_tup (vs := lsets.map vS) (by repeat' (first | exact ea_nil | refine ea_cons ev_c ?_)) (by decide)) (ev_call (ea_cons (ev_op (ev_call (ea_cons (ev_var rfl) (ea_cons ev_c ea_nil)) (z := .int (cellAt ns 0)) ?_) (ev_var rfl) rv_I0) (ea_cons ev_c (ea_cons ev_c ea_nil))) (z := .int (drawF (cellAt ns 0 + b) 6 5)) ?_) (fun p H2 h2 e2 => rv_ixT (K := K) (st_of h2) hix)) (fun H2 e2 => k.go e2)
    · exact fun H2 e2 Q q E => ⟨a, ns, 0, rfl, ex_l e2 hS, q⟩
    · exact fun H2 e2 Q q E => ⟨_, 6, _, rfl, ((cell_lim hl).add ((Lim.small (i := (b : Int)) (by omega) (by omega)).mono (by decide))).mono (by decide), by decide, by decide, q⟩

abbrev s_law_due : Stmt := topS 28
abbrev nm_law_due : List Str := ["_law_word_here", "_law_text", "_law_found", "_law_part"]
theorem sc_law_due : FnScope nm_law_due ["_law_word_here", "_law_text", "_law_found"] (defScope s_law_due) := ⟨rfl, rfl, rfl, by decide +kernel, rfl, by decide +kernel, by decide +kernel⟩
theorem ok_law_due {f : Addr} {fd : FuncData} {a_Missing : Addr} {a_Piece : Addr} (F : Fun K "_law_due" "_law_due" s_law_due f fd) (B : Bl mg) (c_law_stands : Cal P w K mg base 1 "_law_stands" ["_law_word_here", "_law_text"] (sp_stands)) (k_Missing : Kl K mg "Missing" a_Missing ["place", "begin", "end"]) (k_Piece : Kl K mg "Piece" a_Piece ["place", "begin", "end"]) (q_PP : PySem.W.kitOne K (.ref a_Piece) (.ref a_Piece) = some true) (q_MP : PySem.W.kitOne K (.ref a_Missing) (.ref a_Piece) = some false) :
    FnOk P w K mg base (L2.CX P w) 2 f fd ["_law_word_here", "_law_text", "_law_found"] (sp_due a_Piece a_Missing) := by
  refine F.okX sc_law_due (fun vs H Q E h => ?_) (fun cdv A outer s H vs Q E hr h => ?_)
  · obtain ⟨W, T, x, rfl, hW, hT, k⟩ := h
    first | rfl | (rw [List.length_cons, hl]; rfl)
  · obtain ⟨W, T, x, rfl, hW, hT, k⟩ := h
    refine ⟨_, (pss_cons (ps_if (pt_val (pe_callB call_isi (by rfl) B.isinstance (by decide +kernel) (pa_cons (pv 2) (pa_cons (pe_glob (v := .ref a_Piece) rfl k_Piece.g rfl) pa_nil)))) (pss_one (ps_ret (pe_and (pe_chain op_le op_le pe_int (pe_fld (pv 2) rfl) (pe_op op_sub (pe_callB call_len_str (by rfl) B.len PySem.boot_len (pa_cons (pv 0) pa_nil)) (pe_callB call_len_str (by rfl) B.len PySem.boot_len (pa_cons (pv 1) pa_nil)))) (pe_one (pe_cmpR op_eq (pe_slice sl_str (pv 0) (po_some (pe_fld (pv 2) rfl)) (po_some (pe_op op_add (pe_fld (pv 2) rfl) (pe_callB call_len_str (by rfl) B.len PySem.boot_len (pa_cons (pv 1) pa_nil))))) (pv 1) (nomark _)))))) pss_nil)
      (pss_cons (ps_if (pt_not (pt_chain3 op_le op_lt op_le pe_int (pe_fld (pv 2) rfl) (pe_fld (pv 2) rfl) (pe_callB call_len_str (by rfl) B.len PySem.boot_len (pa_cons (pv 1) pa_nil)))) (pss_one (ps_ret pe_bl)) pss_nil)
      (pss_cons (ps_set (i := 3) sc_law_due.nd rfl (.inl rfl) (pe_slice sl_str (pv 1) (po_some (pe_fld (pv 2) rfl)) (po_some (pe_fld (pv 2) rfl))))
      (pss_one (ps_ret (pe_and (pe_not (pe_cal c_law_stands (hr.mono (by decide)) (by rfl) (passes_call (takes_of rfl rfl rfl rfl) (fun _ _ _ _ h => h)) (pa_cons (pv 0) (pa_cons (pv 3) pa_nil)))) (pe_and (pe_cal c_law_stands (hr.mono (by decide)) (by rfl) (passes_call (takes_of rfl rfl rfl rfl) (fun _ _ _ _ h => h)) (pa_cons (pv 0) (pa_cons (pe_slice sl_str (pv 3) (po_some pe_int) po_none) pa_nil))) (pe_one (pe_cal c_law_stands (hr.mono (by decide)) (by rfl) (passes_call (takes_of rfl rfl rfl rfl) (fun _ _ _ _ h => h)) (pa_cons (pv 0) (pa_cons (pe_slice sl_str (pv 3) po_none (po_some (pe_un un_neg pe_int))) pa_nil))))))))))), ?_⟩
    rcases k with ⟨dx, i, hx, k⟩ | ⟨dx, b, e, hx, k⟩
    · have tyx : ∀ H1, Ex H H1 → TyX K H1 (.ref x) (.ref a_Piece) := fun H1 e1 => .base (.ins (e1 _ _ hx) k_Piece.cl k_Piece.ha k_Piece.hn k_Piece.htk k_Piece.hm)
      refine q_when (et_B (ev_isiX (ev_var rfl) (.own _) tyx q_PP)) (fun _ H1 e1 => ?_) (fun h => nomatch h)
      have fp : Ev (tFld K (tVar 2) "place") (start nm_law_due [vS W, vS T, .ref x]) H1 (.int i) := ev_fld (ev_var rfl) (e1 _ _ hx) k_Piece.cl (k_Piece.nF _ (by decide)) rfl
      refine s_ret (v := .bl (pieceShows i W T)) (ev_is (ev_andV (ev_chain2 ev_c fp rv_I0 (ev_op (ev_lenS (ev_var rfl) (by omega)) (ev_lenS (ev_var rfl) (by omega)) rv_I0) rv_I0) fun _ => ev_op (ev_slS (ev_var rfl) (eo_some fp) (eo_some (ev_op fp (ev_lenS (ev_var rfl) (by omega)) rv_I0)) (by omega)) (ev_var rfl) rv_eqS) (by rw [piece_due])) fun H2 e2 => k.go (e1.trans e2)
    · have tyx : ∀ H1, Ex H H1 → TyX K H1 (.ref x) (.ref a_Missing) := fun H1 e1 => .base (.ins (e1 _ _ hx) k_Missing.cl k_Missing.ha k_Missing.hn k_Missing.htk k_Missing.hm)
      refine q_when (et_B (ev_isiX (ev_var rfl) (.own _) tyx q_MP)) (fun h => nomatch h) (fun _ H1 e1 => ?_)
      have fb : ∀ H1 σ, Ex H H1 → σ[2]? = some (some (V.ref x)) → Ev (tFld K (tVar 2) "begin") σ H1 (.int b) := fun H1 σ e1 h => ev_fld (ev_var h) (e1 _ _ hx) k_Missing.cl (k_Missing.nF _ (by decide)) rfl
      have fe : ∀ H1 σ, Ex H H1 → σ[2]? = some (some (V.ref x)) → Ev (tFld K (tVar 2) "end") σ H1 (.int e) := fun H1 σ e1 h => ev_fld (ev_var h) (e1 _ _ hx) k_Missing.cl (k_Missing.nF _ (by decide)) rfl
      refine q_when (et_not (et_test (ev_chain3 ev_c (fb H1 _ e1 rfl) rv_I0 (fe H1 _ e1 rfl) rv_I0 (ev_lenS (l := T) (ev_var rfl) (by omega)) rv_I0))) (fun hb H2 e2 => ?_) (fun hb H2 e2 => ?_)
      · rw [Bool.not_eq_true'] at hb
        refine s_ret ev_c fun H3 e3 => ?_
        have : missShows b e W T = false := by rw [miss_due2, hb]; rfl
        rw [← this]
        exact k.go ((e1.trans e2).trans e3)
      · rw [Bool.not_eq_false'] at hb
        have l0 := cut_len T (some b) (some e)
        have st : ∀ (t : List Nat) (H1 : Hp), SpV sp_stands [vS W, vS t] H1 (.bl (inF t W)) := fun t H1 H2 _ Q q E => ⟨W, t, rfl, q⟩
        refine q_asg (ev_slS (ev_var rfl) (eo_some (fb H2 _ (e1.trans e2) rfl)) (eo_some (fe H2 _ (e1.trans e2) rfl)) (by omega)) fun H3 e3 => ?_
        refine s_ret (v := .bl (missShows b e W T)) (ev_is (ev_andV (ev_notV (ev_call (ea_cons (ev_var rfl) (ea_cons (ev_var rfl) ea_nil)) (st _ H3))) fun _ => ev_andV (ev_call (ea_cons (ev_var rfl) (ea_cons (ev_slS (ev_var rfl) (eo_some ev_c) eo_none (by omega)) ea_nil)) (st _ H3)) fun _ => ev_call (ea_cons (ev_var rfl) (ea_cons (ev_slS (ev_var rfl) eo_none (eo_some (ev_un ev_c ru_neg)) (by omega)) ea_nil)) (st _ H3)) (by rw [miss_due2, hb]; rfl)) fun H4 e4 => k.go (((e1.trans e2).trans e3).trans e4)

abbrev s_told : Stmt := topS 18
abbrev nm_told : List Str := ["word", "text", "end", "begin"]
theorem sc_told : FnScope nm_told ["word", "text"] (defScope s_told) := ⟨rfl, rfl, rfl, by decide +kernel, rfl, by decide +kernel, by decide +kernel⟩
theorem ok_told {f : Addr} {fd : FuncData} {a_BadText : Addr} {a_BadWord : Addr} {a_Missing : Addr} {a_Piece : Addr} (F : Fun K "told" "told" s_told f fd) (B : Bl mg) (c_check_word : Cal P w K mg base 2 "check_word" ["word"] (sp_check a_BadWord)) (c_check_text : Cal P w K mg base 2 "check_text" ["text"] (sp_check a_BadText)) (i_Missing : CalI P w K mg base 1 "Missing" a_Missing ["self", "begin", "end"] (sp_init a_Missing 2 fsM)) (i_Piece : CalI P w K mg base 1 "Piece" a_Piece ["self", "place"] (sp_init a_Piece 1 fsP)) :
    FnOk P w K mg base (L2.CX P w) 3 f fd ["word", "text"] (sp_told a_BadWord a_BadText a_Piece a_Missing) := by
  refine F.okX sc_told (fun vs H Q E h => ?_) (fun cdv A outer s H vs Q E hr h => ?_)
  · obtain ⟨v1, n1, v2, n2, rfl, hT1, hT2, k1, k2, k3⟩ := h
    first | rfl | (rw [List.length_cons, hl]; rfl)
  · obtain ⟨v1, n1, v2, n2, rfl, hT1, hT2, k1, k2, k3⟩ := h
    refine ⟨_, (pss_cons (ps_expr (pe_cal c_check_word (hr.mono (by decide)) (by rfl) (passes_call (takes_of rfl rfl rfl rfl) (fun _ _ _ _ h => h)) (pa_cons (pv 0) pa_nil)))
      (pss_cons (ps_expr (pe_cal c_check_text (hr.mono (by decide)) (by rfl) (passes_call (takes_of rfl rfl rfl rfl) (fun _ _ _ _ h => h)) (pa_cons (pv 1) pa_nil)))
      (pss_cons (ps_if (pt_cmpR op_in_str (pv 1) (pv 0) (by rfl)) (pss_one (ps_ret (pe_calI i_Piece (hr.mono (by decide)) (by rfl) (passes_call (takes_of rfl rfl rfl rfl) (fun _ _ _ _ h => h)) (pa_cons (pe_bm PySem.F.plainAttrs_str PySem.F.slot_str_find PySem.F.type_str_find mt_find (pv 0) (pa_cons (pv 1) pa_nil)) pa_nil)))) pss_nil)
      (pss_cons (ps_set (i := 2) sc_told.nd rfl (.inl rfl) pe_int)
      (pss_cons (ps_while (passes_of rfl) (pt_cmpR op_in_str (pe_slice sl_str (pv 1) po_none (po_some (pv 2))) (pv 0) (by rfl)) (pss_one (ps_aug (i := 2) sc_told.nd rfl (.inl rfl) pe_int ip_add)))
      (pss_cons (ps_set (i := 3) sc_told.nd rfl (.inl rfl) pe_int)
      (pss_cons (ps_while (passes_of rfl) (pt_cmpR op_notin_str (pe_slice sl_str (pv 1) (po_some (pe_op op_add (pv 3) pe_int)) (po_some (pv 2))) (pv 0) (by rfl)) (pss_one (ps_aug (i := 3) sc_told.nd rfl (.inl rfl) pe_int ip_add)))
      (pss_one (ps_ret (pe_calI i_Missing (hr.mono (by decide)) (by rfl) (passes_call (takes_of rfl rfl rfl rfl) (fun _ _ _ _ h => h)) (pa_cons (pv 3) (pa_cons (pv 2) pa_nil)))))))))))), ?_⟩
    refine q_dropC (ea_cons (ev_var rfl) ea_nil) fun H1 e1 => ?_
    refine ⟨v1, n1, rfl, hT1.ex e1, fun h1 H2 e2 => ?_, fun h1 H2 e2 => k1 h1 H2 (e1.trans e2)⟩
    refine q_dropC (ea_cons (ev_var rfl) ea_nil) fun H3 e3 => ?_
    have x3 : Ex H H3 := (e1.trans e2).trans e3
    refine ⟨v2, n2, rfl, hT2.ex x3, fun h2 H4 e4 => ?_, fun h2 H4 e4 => k2 h1 h2 H4 (x3.trans e4)⟩
    have x4 : Ex H H4 := x3.trans e4
    obtain ⟨W, rfl, hw⟩ := text_wd hT1 h1
    obtain ⟨T, rfl, ht⟩ := text_wd hT2 h2
    obtain ⟨kp, km⟩ := k3 W T rfl rfl hw ht
    have hwl := hw.1
    have htl := ht.1
    refine q_when (et_test (ev_op (ev_var rfl) (ev_var rfl) rv_in)) (fun hb H5 e5 => ?_) (fun hb H5 e5 => ?_)
    · unfold inF at hb
      cases hp : placesF W T with
      | nil => rw [hp] at hb; cases hb
      | cons i r =>
        refine s_retI (fs := [("place", .int (i : Nat))]) (ei_make (C := a_Piece) (fs := fsP) (ea_cons (ev_bm (K := K) (T := "str") (x := .str (S W)) (ev_var rfl) (fun _ _ => rfl) (ea_cons (ev_var rfl) ea_nil) (z := .int (i : Nat)) ?_) ea_nil) rfl) fun p dx H6 hp6 e6 h6 => (kp i r hp).go (x4.trans e5) hp6 e6 h6
        refine fun H6 _ Q q => ⟨S W, S T, rfl, rfl, ?_⟩
        rw [find_S, hp]
        exact q H6 (Ex.refl _)
    · have hn : placesF W T = [] := by
        unfold inF at hb
        cases hp : placesF W T with
        | nil => rfl
        | cons i r => rw [hp] at hb; cases hb
      have hT0 : T ≠ [] := fun h => by
        rw [h, inF_nil] at hb
        cases hb
      have hTp : 0 < T.length := List.length_pos_iff.mpr hT0
      have x5 := x4.trans e5
      refine q_asg ev_c fun H6 e6 => ?_
      refine q_while (fun m σ' H' => ∃ e : Nat, σ' = [some (vS W), some (vS T), some (.int (e : Nat)), none] ∧ 1 ≤ e ∧ e ≤ T.length ∧ (∀ j, j < e → inF (T.take j) W = true) ∧ m = T.length - e ∧ Ex H H') (T.length - 1) ⟨1, rfl, Nat.le_refl _, by omega, fun j hj => by rw [show j = 0 by omega]; exact inF_nil W, rfl, x5.trans e6⟩ ?_
      rintro m _ H7 ⟨e, rfl, he1, he2, hj, rfl, x7⟩
      refine ⟨inF (T.take e) W, et_test (ev_op (ev_is (ev_slS (ev_var rfl) eo_none (eo_some (ev_var rfl)) (by omega)) (by rw [cut_to])) (ev_var rfl) rv_in), fun hb2 H8 e8 => ?_, fun hb2 H8 e8 => ?_⟩
      · have hlt : e < T.length := by
          rcases Nat.lt_or_eq_of_le he2 with h | h
          · exact h
          · rw [h, List.take_length, hb] at hb2
            cases hb2
        refine ⟨fun σ' H' => ∃ e' : Nat, e' = e + 1 ∧ σ' = [some (vS W), some (vS T), some (.int (e' : Nat)), none] ∧ Ex H H', ?_, ?_⟩
        · rintro σ2 H9 ⟨e', rfl, rfl, x9⟩
          refine ⟨T.length - (e + 1), by omega, e + 1, rfl, by omega, by omega, fun j hj' => ?_, rfl, x9⟩
          rcases Nat.lt_or_eq_of_le (Nat.le_of_lt_succ hj') with h | h
          · exact hj j h
          · rw [h]; exact hb2
        · refine s_aug rfl ev_c fun H9 e9 => ⟨e + 1, rfl, ?_, (x7.trans e8).trans e9⟩
          rw [show (((e + 1 : Nat) : Int)) = (e : Int) + 1 by omega]
          rfl
      · refine q_asg ev_c fun H9 e9 => ?_
        refine q_while (fun m σ' H' => ∃ b : Nat, σ' = [some (vS W), some (vS T), some (.int (e : Nat)), some (.int (b : Nat))] ∧ b < e ∧ (∀ j, j ≤ b → inF ((T.take e).drop j) W = false) ∧ m = e - b ∧ Ex H H') e ⟨0, rfl, by omega, fun j hj' => by rw [show j = 0 by omega, List.drop_zero]; exact hb2, rfl, (x7.trans e8).trans e9⟩ ?_
        rintro m _ H10 ⟨b, rfl, hbe, hbj, rfl, x10⟩
        refine ⟨!inF ((T.take e).drop (b + 1)) W, et_test (ev_op (ev_is (ev_slS (ev_var rfl) (eo_some (ev_op (ev_var rfl) ev_c rv_I0)) (eo_some (ev_var rfl)) (by omega)) (by rw [show ((b : Int) + 1) = ((b + 1 : Nat) : Int) by omega, cut_tb])) (ev_var rfl) rv_nin), fun hb3 H11 e11 => ?_, fun hb3 H11 e11 => ?_⟩
        · rw [Bool.not_eq_true'] at hb3
          have hlt : b + 1 < e := by
            rcases Nat.lt_or_eq_of_le (show b + 1 ≤ e by omega) with h | h
            · exact h
            · rw [List.drop_of_length_le (by rw [List.length_take]; omega), inF_nil] at hb3
              cases hb3
          refine ⟨fun σ' H' => ∃ b' : Nat, b' = b + 1 ∧ σ' = [some (vS W), some (vS T), some (.int (e : Nat)), some (.int (b' : Nat))] ∧ Ex H H', ?_, ?_⟩
          · rintro σ2 H12 ⟨b', rfl, rfl, x12⟩
            refine ⟨e - (b + 1), by omega, b + 1, rfl, by omega, fun j hj' => ?_, rfl, x12⟩
            rcases Nat.lt_or_eq_of_le hj' with h | h
            · exact hbj j (by omega)
            · rw [h]; exact hb3
          · refine s_aug rfl ev_c fun H12 e12 => ⟨b + 1, rfl, ?_, (x10.trans e11).trans e12⟩
            rw [show (((b + 1 : Nat) : Int)) = (b : Int) + 1 by omega]
            rfl
        · refine s_retI (ei_make (C := a_Missing) (fs := fsM) (ea_cons (ev_var rfl) (ea_cons (ev_var rfl) ea_nil)) rfl) fun p dx H12 hp12 e12 h12 => (km hn b e hbe he2 hj hb2 hbj (by simpa using hb3)).go (x10.trans e11) hp12 e12 h12

abbrev s_law_word : Stmt := topS 24
abbrev nm_law_word : List Str := ["_law_script", "_law_by", "_law_some", "_law_k", "_law_cell", "_law_text", "_law_kind", "_law_part", "_law_at"]
theorem sc_law_word : FnScope nm_law_word ["_law_script", "_law_by"] (defScope s_law_word) := ⟨rfl, rfl, rfl, by decide +kernel, rfl, by decide +kernel, by decide +kernel⟩
theorem ok_law_word {f : Addr} {fd : FuncData} (F : Fun K "_law_word" "_law_word" s_law_word f fd) (B : Bl mg) (c_law_cell_at : Cal P w K mg base 1 "_law_cell_at" ["_law_script", "_law_k"] (sp_cell K)) (c_law_draw : Cal P w K mg base 1 "_law_draw" ["_law_cell", "_law_k", "_law_most"] (sp_draw)) (c_law_number : Cal P w K mg base 2 "_law_number" ["_law_cell", "_law_k", "_law_limit"] (sp_number)) (c_law_letters : Cal P w K mg base 2 "_law_letters" ["_law_script", "_law_by"] (sp_letters K)) :
    FnOk P w K mg base (L2.CX P w) 3 f fd ["_law_script", "_law_by"] (sp_word K) := by
  refine F.okX sc_law_word (fun vs H Q E h => ?_) (fun cdv A outer s H vs Q E hr h => ?_)
  · obtain ⟨a, ns, b, rfl, hS, hl, hn, hb, k⟩ := h
    first | rfl | (rw [List.length_cons, hl]; rfl)
  · obtain ⟨a, ns, b, rfl, hS, hl, hn, hb, k⟩ := h
    refine ⟨_, (pss_cons (ps_set (i := 2) sc_law_word.nd rfl (.inr rfl) (pe_cal c_law_letters (hr.mono (by decide)) (by rfl) (passes_call (takes_of rfl rfl rfl rfl) (fun _ _ _ _ h => h)) (pa_cons (pv 0) (pa_cons (pv 1) pa_nil))))
      (pss_cons (ps_set (i := 5) sc_law_word.nd rfl (.inl rfl) (pe_bm PySem.F.plainAttrs_str PySem.F.slot_str_join PySem.F.type_str_join mt_join pe_str (pa_cons (pe_lc (own := [("_law_k", 3), ("_law_cell", 4)]) (g := (gTup K 2 (gCons (gName 3) (gCons (gName 4) gNil)))) rfl sc_law_word.nd (pi_enum (by rfl) B.enumerate (pa_cons (pe_slice sl_list (pv 0) po_none (po_some pe_int)) pa_nil)) (blkOk_by (N := nm_law_word) (sc := defScope s_law_word) (by decide +kernel)) (fun _ _ _ _ _ => by exact (pg_tup rfl (pgs_cons (pg_name (i := 3) sc_law_word.nd rfl (.inl rfl)) (pgs_cons (pg_name (i := 4) sc_law_word.nd rfl (.inl rfl)) pgs_nil)))) (fun _ _ _ _ _ => by exact pts_nil) (fun _ _ _ _ _ => by exact (pe_ix ix_str (pv 2) (pe_cal c_law_number (hr.mono (by decide)) (by rfl) passL (pa_cons (pv 4) (pa_cons (pe_op op_add (pv 3) (pv 1)) (pa_cons (pe_callB call_len_str (by rfl) B.len PySem.boot_len (pa_cons (pv 2) pa_nil)) pa_nil)))) (fun _ _ => rfl)))) pa_nil)))
      (pss_cons (ps_set (i := 6) sc_law_word.nd rfl (.inl rfl) (pe_cal c_law_draw (hr.mono (by decide)) (by rfl) (passes_call (takes_of rfl rfl rfl rfl) (fun _ _ _ _ h => h)) (pa_cons (pe_op op_add (pe_cal c_law_cell_at (hr.mono (by decide)) (by rfl) (passes_call (takes_of rfl rfl rfl rfl) (fun _ _ _ _ h => h)) (pa_cons (pv 0) (pa_cons pe_int pa_nil))) (pv 1)) (pa_cons pe_int (pa_cons pe_int pa_nil)))))
      (pss_cons (ps_set (i := 7) sc_law_word.nd rfl (.inl rfl) (pe_op op_add pe_int (pe_cal c_law_draw (hr.mono (by decide)) (by rfl) (passes_call (takes_of rfl rfl rfl rfl) (fun _ _ _ _ h => h)) (pa_cons (pe_op op_add (pe_cal c_law_cell_at (hr.mono (by decide)) (by rfl) (passes_call (takes_of rfl rfl rfl rfl) (fun _ _ _ _ h => h)) (pa_cons (pv 0) (pa_cons pe_int pa_nil))) (pv 1)) (pa_cons pe_int (pa_cons pe_int pa_nil))))))
      (Evl.pss_cut (ps_if (pt_cmpR op_eq (pv 6) pe_int (nomark _)) (pss_one (ps_set (i := 5) sc_law_word.nd rfl (.inl rfl) (pe_slice sl_str (pe_op op_mul_str (pe_slice sl_str (pv 5) po_none (po_some (pv 7))) pe_int) po_none (po_some (pe_callB call_len_str (by rfl) B.len PySem.boot_len (pa_cons (pv 5) pa_nil)))))) pss_nil)
      (Evl.pss_cut (ps_if (PW.pt (pw_and (pt_cmpR op_eq (pv 6) pe_int (nomark _)) (pw_and1 (pt_cmpR op_ne (pv 5) pe_str (nomark _))))) (pss_cons (ps_set (i := 8) sc_law_word.nd rfl (.inl rfl) (pe_cal c_law_draw (hr.mono (by decide)) (by rfl) (passes_call (takes_of rfl rfl rfl rfl) (fun _ _ _ _ h => h)) (pa_cons (pe_cal c_law_cell_at (hr.mono (by decide)) (by rfl) (passes_call (takes_of rfl rfl rfl rfl) (fun _ _ _ _ h => h)) (pa_cons (pv 0) (pa_cons pe_int pa_nil))) (pa_cons pe_int (pa_cons (pe_callB call_len_str (by rfl) B.len PySem.boot_len (pa_cons (pv 5) pa_nil)) pa_nil)))))
      (pss_cons (ps_set (i := 5) sc_law_word.nd rfl (.inl rfl) (pe_slice sl_str (pe_op op_mul_str (pe_slice sl_str (pv 5) po_none (po_some (pv 7))) pe_int) po_none (po_some (pe_callB call_len_str (by rfl) B.len PySem.boot_len (pa_cons (pv 5) pa_nil)))))
      (pss_one (ps_set (i := 5) sc_law_word.nd rfl (.inl rfl) (pe_op op_add_str (pe_op op_add_str (pe_slice sl_str (pv 5) po_none (po_some (pv 8))) (pe_ix ix_str (pv 2) (pe_op op_mod (pv 8) (pe_callB call_len_str (by rfl) B.len PySem.boot_len (pa_cons (pv 2) pa_nil))) (fun _ _ => rfl))) (pe_slice sl_str (pv 5) (po_some (pe_op op_add (pv 8) pe_int)) po_none)))))) pss_nil)
      (Evl.pss_cut (ps_if (pt_cmpR op_eq (pv 6) pe_int (nomark _)) (pss_one (ps_set (i := 5) sc_law_word.nd rfl (.inl rfl) (pe_slice sl_str (pe_op op_add_str (pe_op op_add_str (pe_slice sl_str (pv 5) po_none (po_some pe_int)) (pe_slice sl_str (pv 5) po_none (po_some (pv 7)))) (pe_slice sl_str (pv 5) po_none (po_some pe_int))) po_none (po_some pe_int)))) pss_nil)
      (Evl.pss_cut (ps_if (pt_cmpR op_eq (pe_cal c_law_draw (hr.mono (by decide)) (by rfl) (passes_call (takes_of rfl rfl rfl rfl) (fun _ _ _ _ h => h)) (pa_cons (pe_op op_add (pe_cal c_law_cell_at (hr.mono (by decide)) (by rfl) (passes_call (takes_of rfl rfl rfl rfl) (fun _ _ _ _ h => h)) (pa_cons (pv 0) (pa_cons pe_int pa_nil))) (pv 1)) (pa_cons pe_int (pa_cons pe_int pa_nil)))) pe_int (nomark _)) (pss_one (ps_set (i := 5) sc_law_word.nd rfl (.inl rfl) (pe_slice sl_str (pe_op op_mul_str (pv 5) pe_int) po_none (po_some (pe_op op_add pe_int (pe_cal c_law_draw (hr.mono (by decide)) (by rfl) (passes_call (takes_of rfl rfl rfl rfl) (fun _ _ _ _ h => h)) (pa_cons (pe_cal c_law_cell_at (hr.mono (by decide)) (by rfl) (passes_call (takes_of rfl rfl rfl rfl) (fun _ _ _ _ h => h)) (pa_cons (pv 0) (pa_cons pe_int pa_nil))) (pa_cons pe_int (pa_cons pe_int pa_nil))))))))) pss_nil)
      (pss_one (ps_ret (pv 5))))))))))), ?_⟩
    have ne := letters_ne (cellAt ns 0 + b)
    generalize hls : lettersF (cellAt ns 0 + b) = ls at k ne
    have dr : ∀ (j i : Nat) (z m : Int) (H1 : Hp), i ≤ 1000 → 0 ≤ z → z ≤ 1000 → 0 < m → SpV sp_draw [.int (cellAt ns j + z), .int (i : Int), .int m] H1 (.int (drawF (cellAt ns j + z) i m)) := fun j i z m H1 hi z1 z2 hm H2 e2 Q q E =>
      ⟨_, i, _, rfl, ((cell_lim hl).add ((Lim.small (i := z) (by omega) (by omega)).mono (by decide))).mono (by decide), by omega, hm, q⟩
    have dr0 : ∀ (j i : Nat) (m : Int) (H1 : Hp), i ≤ 1000 → 0 < m → SpV sp_draw [.int (cellAt ns j), .int (i : Int), .int m] H1 (.int (drawF (cellAt ns j) i m)) := fun j i m H1 hi hm H2 e2 Q q E =>
      ⟨_, i, _, rfl, (cell_lim hl).mono (by decide), by omega, hm, q⟩
    have ce : ∀ (j : Nat) (H1 : Hp), Ex H H1 → SpV (sp_cell K) [.ref a, .int (j : Int)] H1 (.int (cellAt ns j)) := fun j H1 e1 H2 e2 Q q E => ⟨a, ns, j, rfl, ex_l (e1.trans e2) hS, q⟩
    refine q_asg (v := vS ls) (ev_call (ea_cons (ev_var rfl) (ea_cons (ev_var rfl) ea_nil)) ?_) fun H1 e1 => ?_
    · exact fun H2 e2 Q q E => ⟨a, ns, b, rfl, ex_l e2 hS, hl, hb, by rw [hls]; exact q⟩
    have hcut : cutV (ns.map V.int) none (some 63) = ns.map V.int := by
      unfold cutV
      rw [HT.sIx_none, List.drop_zero, Nat.sub_zero, show HT.sIx (ns.map V.int).length (ns.map V.int).length (some 63) = min 63 (ns.map V.int).length from HT.sIx_nat _ _ 63, List.length_map, Nat.min_eq_right hn]
      exact List.take_of_length_le (by rw [List.length_map]; exact Nat.le_refl _)
    refine q_asgQ (P := fun v => ∃ l, v = vS l ∧ Gd ls 63 l) ?_ fun v H2 hv e2 => ?_
    · refine EvQ.imp (eq_join (K := K) (ls := ls) (n := (ns.map V.int).length) (by rw [List.length_map]; omega)
        (eq_lcE (K := K) (i := 3) (j := 4) (vs := [3, 4]) (fun _ y => ∃ c, y = vS [c] ∧ c ∈ ls)
        (hcut ▸ el_sl (K := K) (ev_var rfl) eo_none (eo_some ev_c) (ex_l e1 hS)) (by rw [List.length_map]; omega) (fun x y => rfl) (fun i x H3 e3 hx =>
          eq_op2 (x := vS ls) (ev_var rfl) (eq_call (P := fun v => ∃ r : Int, v = .int r ∧ 0 ≤ r ∧ r < ls.length) (ea_cons (ev_var rfl) (ea_cons (ev_op (ev_var rfl) (ev_var rfl) rv_I0) (ea_cons (ev_lenS (l := ls) (ev_var rfl) (by omega)) ea_nil))) ?_) ?_))) (fun v hv => by
          obtain ⟨l, e, g⟩ := hv
          exact ⟨l, e, g.mono (by rw [List.length_map]; exact hn)⟩)
      · rw [List.getElem?_map] at hx
        obtain ⟨z, hz, rfl⟩ : ∃ z, ns[i]? = some z ∧ x = V.int z := by
          cases e : ns[i]? with
          | none => rw [e] at hx; cases hx
          | some z => rw [e] at hx; exact ⟨z, rfl, (Option.some.inj hx).symm⟩
        have hi : i < ns.length := (List.getElem?_eq_some_iff.mp hz).1
        exact fun G1 f1 Q q E => ⟨z, i + b, _, rfl, hl z (List.mem_of_getElem? hz), by omega, by omega, fun r r1 r2 G2 f2 => q _ G2 ⟨r, rfl, r1, r2⟩ f2⟩
      · rintro y ⟨r, rfl, r1, r2⟩
        obtain ⟨c, h1, h2⟩ := at_mem r1 r2
        exact ⟨vS [c], ⟨c, rfl, h2⟩, rv_ixS' (by omega) h1⟩
    obtain ⟨l, rfl, hg⟩ := hv
    have x2 : Ex H H2 := e1.trans e2
    -- kind, part
    refine q_asg (v := .int (drawF (cellAt ns 1 + b) 7 6)) (ev_call (ea_cons (ev_op (ev_call (ea_cons (ev_var rfl) (ea_cons ev_c ea_nil)) (ce 1 H2 x2)) (ev_var rfl) rv_I0) (ea_cons ev_c (ea_cons ev_c ea_nil))) (dr 1 7 b 6 H2 (by decide) (by omega) (by omega) (by decide))) fun H3 e3 => ?_
    generalize drawF (cellAt ns 1 + b) 7 6 = kd
    refine q_asg (ev_op ev_c (ev_call (ea_cons (ev_op (ev_call (ea_cons (ev_var rfl) (ea_cons ev_c ea_nil)) (ce 2 H3 (x2.trans e3))) (ev_var rfl) rv_I0) (ea_cons ev_c (ea_cons ev_c ea_nil))) (dr 2 4 b 9 H3 (by decide) (by omega) (by omega) (by decide))) rv_I0) fun H4 e4 => ?_
    obtain ⟨pt, hpt, hp9⟩ : ∃ pt : Nat, 1 + drawF (cellAt ns 2 + b) 4 9 = (pt : Int) ∧ pt ≤ 9 := by
      have h1 := draw_lo (c := cellAt ns 2 + b) (k := 4) (m := 9) (by decide)
      have h2 := draw_hi (c := cellAt ns 2 + b) (k := 4) (m := 9) (by decide)
      exact ⟨(1 + drawF (cellAt ns 2 + b) 4 9).toNat, by omega, by omega⟩
    rw [hpt]
    have x4 : Ex H H4 := (x2.trans e3).trans e4
    have rp : ∀ (l : List Nat) (H1 : Hp), Gd ls 63 l → RV rMulS (vS (cut l none (some (pt : Int)))) (.int 63) H1 (vS ((List.replicate 63 (cut l none (some (pt : Int)))).flatten)) := fun l H1 g => rv_mulS (n := 63) (by have := (g.to (i := (pt : Int)) (k := 9) (by omega) (by omega)).1; omega) (by decide)
    have rg : ∀ (l : List Nat), Gd ls 63 l → Gd ls 63 (cut ((List.replicate 63 (cut l none (some (pt : Int)))).flatten) none (some (l.length : Int))) := fun l g => ((g.to (i := (pt : Int)) (k := 9) (by omega) (by omega)).rep 63).to (by omega) (by have := g.1; omega)
    have rl : ∀ (l : List Nat), Gd ls 63 l → ((List.replicate 63 (cut l none (some (pt : Int)))).flatten).length ≤ 1000000 := fun l g => by
      have := ((g.to (i := (pt : Int)) (k := 9) (by omega) (by omega)).rep 63).1
      omega
    -- if kind == 1
    refine ⟨fun σ' H' => ∃ l x8, σ' = [some (.ref a), some (.int (b : Int)), some (vS ls), none, none, some (vS l), some (.int kd), some (.int (pt : Int)), x8] ∧ Gd ls 63 l ∧ Ex H H', ?_, ?_⟩
    · refine s_when (et_test (ev_op (ev_var rfl) ev_c rv_eqI)) (fun _ H5 e5 => ?_) (fun _ H5 e5 => ⟨l, none, rfl, hg, x4.trans e5⟩)
      refine s_asg (ev_slS (l := (List.replicate 63 (cut l none (some (pt : Int)))).flatten) (ev_op (ev_slS (ev_var rfl) eo_none (eo_some (ev_var rfl)) (by have := hg.1; omega)) ev_c (rp l H5 hg)) eo_none (eo_some (ev_lenS (l := l) (ev_var rfl) (by have := hg.1; omega))) (rl l hg)) fun H6 e6 => ⟨_, none, rfl, rg l hg, (x4.trans e5).trans e6⟩
    clear hg x4 l
    rintro _ H4 ⟨l, x8, rfl, hg, x4⟩
    -- if kind == 2 and text != ""
    refine ⟨fun σ' H' => ∃ l x8, σ' = [some (.ref a), some (.int (b : Int)), some (vS ls), none, none, some (vS l), some (.int kd), some (.int (pt : Int)), x8] ∧ Gd ls 63 l ∧ Ex H H', ?_, ?_⟩
    · refine s_when (et_and (et_test (ev_op (ev_var rfl) ev_c rv_eqI)) fun _ => et_test (ev_op (ev_var rfl) ev_c (rv_neS (b := [])))) (fun hc H5 e5 => ?_) (fun _ H5 e5 => ⟨l, x8, rfl, hg, x4.trans e5⟩)
      have x5 := x4.trans e5
      have hne : l ≠ [] := by
        rw [Bool.and_eq_true, Bool.not_eq_true', decide_eq_false_iff_not] at hc
        exact hc.2
      have hpos : 0 < l.length := List.length_pos_iff.mpr hne
      refine q_asg (ev_call (ea_cons (ev_call (ea_cons (ev_var rfl) (ea_cons ev_c ea_nil)) (ce 3 H5 x5)) (ea_cons ev_c (ea_cons (ev_lenS (l := l) (ev_var rfl) (by have := hg.1; omega)) ea_nil))) (dr0 3 5 _ H5 (by decide) (by omega))) fun H6 e6 => ?_
      have d1 := draw_lo (c := cellAt ns 3) (k := 5) (m := (l.length : Int)) (by omega)
      have d2 := draw_hi (c := cellAt ns 3) (k := 5) (m := (l.length : Int)) (by omega)
      generalize drawF (cellAt ns 3) 5 (l.length : Int) = at_ at d1 d2 ⊢
      obtain ⟨j, rfl⟩ := Int.eq_ofNat_of_zero_le d1
      refine q_asg (ev_slS (l := (List.replicate 63 (cut l none (some (pt : Int)))).flatten) (ev_op (ev_slS (ev_var rfl) eo_none (eo_some (ev_var rfl)) (by have := hg.1; omega)) ev_c (rp l H6 hg)) eo_none (eo_some (ev_lenS (l := l) (ev_var rfl) (by have := hg.1; omega))) (rl l hg)) fun H7 e7 => ?_
      have g2 := rg l hg
      generalize cut ((List.replicate 63 (cut l none (some (pt : Int)))).flatten) none (some (l.length : Int)) = l2 at g2 ⊢
      obtain ⟨c, hc1, hc2⟩ := at_mem (l := ls) (i := (j : Int) % (ls.length : Int)) (Int.emod_nonneg _ (by omega)) (Int.emod_lt_of_pos _ (by omega))
      have hl63 := hg.1
      have g2l := g2.1
      have len1 : (cut l2 none (some (j : Int))).length ≤ l2.length := cut_len _ _ _
      have len2 : (cut l2 (some ((j : Int) + 1)) none).length ≤ l2.length := cut_len _ _ _
      refine s_asg (v := vS ((cut l2 none (some (j : Int)) ++ [c]) ++ cut l2 (some ((j : Int) + 1)) none)) (ev_op (ev_op (ev_slS (ev_var rfl) eo_none (eo_some (ev_var rfl)) (by omega)) (ev_op (ev_var rfl) (ev_op (ev_var rfl) (ev_lenS (ev_var rfl) (by omega)) (rv_I (by show (0 : Int) < _; omega))) (rv_ixS' (by omega) hc1)) (rv_addS (by rw [List.length_singleton]; omega))) (ev_slS (ev_var rfl) (eo_some (ev_op (ev_var rfl) ev_c rv_I0)) eo_none (by omega)) (rv_addS (by rw [List.length_append, List.length_singleton]; omega))) fun H8 e8 => ?_
      refine ⟨_, some (.int (j : Int)), rfl, ⟨?_, fun d hd => ?_⟩, ((x5.trans e6).trans e7).trans e8⟩
      · rw [show ((j : Int) + 1) = ((j + 1 : Nat) : Int) by omega, cut_to, cut_from, List.length_append, List.length_append, List.length_take, List.length_drop, List.length_singleton]
        have : (j : Int) < l.length := d2
        omega
      · rcases List.mem_append.mp hd with h | h
        · rcases List.mem_append.mp h with h | h
          · exact g2.2 d (cut_mem h)
          · rw [List.mem_singleton.mp h]
            exact hc2
        · exact g2.2 d (cut_mem h)
    clear hg x4 l x8
    rintro _ H4 ⟨l, x8, rfl, hg, x4⟩
    -- if kind == 3
    refine ⟨fun σ' H' => ∃ l x8, σ' = [some (.ref a), some (.int (b : Int)), some (vS ls), none, none, some (vS l), some (.int kd), some (.int (pt : Int)), x8] ∧ Gd ls 63 l ∧ Ex H H', ?_, ?_⟩
    · refine s_when (et_test (ev_op (ev_var rfl) ev_c rv_eqI)) (fun _ H5 e5 => ?_) (fun _ H5 e5 => ⟨l, x8, rfl, hg, x4.trans e5⟩)
      have hl63 := hg.1
      have l1 : (cut l none (some 20)).length ≤ l.length := cut_len _ _ _
      have l2 : (cut l none (some (pt : Int))).length ≤ l.length := cut_len _ _ _
      refine s_asg (ev_slS (ev_op (ev_op (ev_slS (ev_var rfl) eo_none (eo_some ev_c) (by omega)) (ev_slS (ev_var rfl) eo_none (eo_some (ev_var rfl)) (by omega)) (rv_addS (by omega))) (ev_slS (ev_var rfl) eo_none (eo_some ev_c) (by omega)) (rv_addS (by rw [List.length_append]; omega))) eo_none (eo_some ev_c) (by rw [List.length_append, List.length_append]; omega)) fun H6 e6 => ⟨_, x8, rfl, ((hg.cut.app hg.cut).app hg.cut).to (by decide) (by decide), (x4.trans e5).trans e6⟩
    clear hg x4 l x8
    rintro _ H4 ⟨l, x8, rfl, hg, x4⟩
    -- to a hundred
    refine ⟨fun σ' H' => ∃ l x8, σ' = [some (.ref a), some (.int (b : Int)), some (vS ls), none, none, some (vS l), some (.int kd), some (.int (pt : Int)), x8] ∧ Gd ls 100 l ∧ Ex H H', ?_, ?_⟩
    · refine s_when (et_test (ev_op (ev_call (ea_cons (ev_op (ev_call (ea_cons (ev_var rfl) (ea_cons ev_c ea_nil)) (ce 2 H4 x4)) (ev_var rfl) rv_I0) (ea_cons ev_c (ea_cons ev_c ea_nil))) (dr 2 9 b 24 H4 (by decide) (by omega) (by omega) (by decide))) ev_c rv_eqI)) (fun _ H5 e5 => ?_) (fun _ H5 e5 => ⟨l, x8, rfl, hg.mono (by decide), x4.trans e5⟩)
      have hl63 := hg.1
      have d1 := draw_lo (c := cellAt ns 0) (k := 5) (m := 37) (by decide)
      have d2 := draw_hi (c := cellAt ns 0) (k := 5) (m := 37) (by decide)
      refine s_asg (ev_slS (ev_op (ev_var rfl) ev_c (rv_mulS (n := 100) (by omega) (by decide))) eo_none (eo_some (ev_op ev_c (ev_call (ea_cons (ev_call (ea_cons (ev_var rfl) (ea_cons ev_c ea_nil)) (ce 0 H5 (x4.trans e5))) (ea_cons ev_c (ea_cons ev_c ea_nil))) (dr0 0 5 37 H5 (by decide) (by decide))) rv_I0)) (by have := (hg.rep 100).1; omega)) fun H6 e6 => ⟨_, x8, rfl, (hg.rep 100).to (by omega) (by omega), (x4.trans e5).trans e6⟩
    rintro _ H5 ⟨l, x8, rfl, hg, x5⟩
    exact s_ret (ev_var rfl) fun H6 e6 => (k l hg.1 hg.2).go (x5.trans e6)

abbrev s_law_right : Stmt := topS 29
abbrev nm_law_right : List Str := ["_law_word_here", "_law_text", "_law_others", "_law_found", "_law_fields", "_law_one", "_law_near", "_law_far"]
theorem sc_law_right : FnScope nm_law_right ["_law_word_here", "_law_text", "_law_others"] (defScope s_law_right) := ⟨rfl, rfl, rfl, by decide +kernel, rfl, by decide +kernel, by decide +kernel⟩
theorem ok_law_right {f : Addr} {fd : FuncData} {a_Answer : Addr} {a_BadText : Addr} {a_BadWord : Addr} {a_Missing : Addr} {a_Piece : Addr} (F : Fun K "_law_right" "_law_right" s_law_right f fd) (B : Bl mg) (c_told : Cal P w K mg base 3 "told" ["word", "text"] (sp_told a_BadWord a_BadText a_Piece a_Missing)) (c_law_whole : Cal P w K mg base 1 "_law_whole" ["_law_number_here"] (sp_whole)) (c_law_says : Cal P w K mg base 1 "_law_says" ["_law_said", "_law_due_here"] (sp_says)) (c_law_stands : Cal P w K mg base 1 "_law_stands" ["_law_word_here", "_law_text"] (sp_stands)) (c_law_due : Cal P w K mg base 2 "_law_due" ["_law_word_here", "_law_text", "_law_found"] (sp_due a_Piece a_Missing)) (k_Answer : Kl K mg "Answer" a_Answer ["place", "begin", "end"]) (k_Missing : Kl K mg "Missing" a_Missing ["place", "begin", "end"]) (k_Piece : Kl K mg "Piece" a_Piece ["place", "begin", "end"]) (m_Missing_shows : CalM P w K mg base 2 a_Missing "shows" ["self", "word", "text"] (sp_mshows a_Missing)) (m_Piece_shows : CalM P w K mg base 2 a_Piece "shows" ["self", "word", "text"] (sp_pshows a_Piece)) (q_PA : PySem.W.kitOne K (.ref a_Piece) (.ref a_Answer) = some true) (q_MA : PySem.W.kitOne K (.ref a_Missing) (.ref a_Answer) = some true) (q_PP : PySem.W.kitOne K (.ref a_Piece) (.ref a_Piece) = some true) (q_MP : PySem.W.kitOne K (.ref a_Missing) (.ref a_Piece) = some false) (q_PM : PySem.W.kitOne K (.ref a_Piece) (.ref a_Missing) = some false) (q_MM : PySem.W.kitOne K (.ref a_Missing) (.ref a_Missing) = some true) :
    FnOk P w K mg base (L2.CX P w) 4 f fd ["_law_word_here", "_law_text", "_law_others"] (sp_right) := by
  refine F.okX sc_law_right (fun vs H Q E h => ?_) (fun cdv A outer s H vs Q E hr h => ?_)
  · obtain ⟨W, T, vo, rfl, hw, ht, hO, k⟩ := h
    first | rfl | (rw [List.length_cons, hl]; rfl)
  · obtain ⟨W, T, vo, rfl, hw, ht, hO, k⟩ := h
    refine ⟨_, (pss_cons (ps_set (i := 3) sc_law_right.nd rfl (.inl rfl) (pe_cal c_told (hr.mono (by decide)) (by rfl) (passes_call (takes_of rfl rfl rfl rfl) (fun _ _ _ _ h => h)) (pa_cons (pv 0) (pa_cons (pv 1) pa_nil))))
      (pss_cons (ps_if (PW.pt (pw_or (pt_not (pt_val (pe_callB call_isi (by rfl) B.isinstance (by decide +kernel) (pa_cons (pv 3) (pa_cons (pe_glob (v := .ref a_Answer) rfl k_Answer.g rfl) pa_nil))))) (pw_or1 (pt_cmpR op_eq (pe_callB call_isi (by rfl) B.isinstance (by decide +kernel) (pa_cons (pv 3) (pa_cons (pe_glob (v := .ref a_Piece) rfl k_Piece.g rfl) pa_nil))) (pe_callB call_isi (by rfl) B.isinstance (by decide +kernel) (pa_cons (pv 3) (pa_cons (pe_glob (v := .ref a_Missing) rfl k_Missing.g rfl) pa_nil))) (nomark _))))) (pss_one (ps_ret pe_bl)) pss_nil)
      (pss_cons (ps_if (PW.pt (pw_or (pt_cmpR op_ne (pe_callB call_isi (by rfl) B.isinstance (by decide +kernel) (pa_cons (pv 3) (pa_cons (pe_glob (v := .ref a_Piece) rfl k_Piece.g rfl) pa_nil))) (pe_cal c_law_stands (hr.mono (by decide)) (by rfl) (passes_call (takes_of rfl rfl rfl rfl) (fun _ _ _ _ h => h)) (pa_cons (pv 0) (pa_cons (pv 1) pa_nil))) (nomark _)) (pw_or1 (pt_not (pt_val (pe_cal c_law_due (hr.mono (by decide)) (by rfl) (passes_call (takes_of rfl rfl rfl rfl) (fun _ _ _ _ h => h)) (pa_cons (pv 0) (pa_cons (pv 1) (pa_cons (pv 3) pa_nil))))))))) (pss_one (ps_ret pe_bl)) pss_nil)
      (pss_cons (ps_set (i := 4) sc_law_right.nd rfl (.inl rfl) (pe_ifExp (pt_val (pe_callB call_isi (by rfl) B.isinstance (by decide +kernel) (pa_cons (pv 3) (pa_cons (pe_glob (v := .ref a_Piece) rfl k_Piece.g rfl) pa_nil)))) (pe_lst (pa_cons (pe_fld (pv 3) rfl) pa_nil)) (pe_lst (pa_cons (pe_fld (pv 3) rfl) (pa_cons (pe_fld (pv 3) rfl) pa_nil)))))
      (pss_cons (ps_if (PW.pt (pw_or (pt_not (pt_val (pe_callB (cr_all rfl) (by rfl) B.all_ (by decide +kernel) (pa_cons (pe_lc (own := [("_law_one", 5)]) (g := (gName 5)) rfl sc_law_right.nd (pi_list (pv 4)) (blkOk_by (N := nm_law_right) (sc := defScope s_law_right) (by decide +kernel)) (fun _ _ _ _ _ => by exact (pg_name (i := 5) sc_law_right.nd rfl (.inl rfl))) (fun _ _ _ _ _ => by exact pts_nil) (fun _ _ _ _ _ => by exact (pe_cal c_law_whole (hr.mono (by decide)) (by rfl) passL (pa_cons (pv 5) pa_nil)))) pa_nil)))) (pw_or1 (pt_cmpR op_notBl (pe_either (pe_calM (pv 3) k_Piece.cl m_Piece_shows (hr.mono (by decide)) (passes_call (takes_of rfl rfl rfl rfl) (fun _ _ _ _ h => h)) (pa_cons (pv 0) (pa_cons (pv 1) pa_nil))) (pe_calM (pv 3) k_Missing.cl m_Missing_shows (hr.mono (by decide)) (passes_call (takes_of rfl rfl rfl rfl) (fun _ _ _ _ h => h)) (pa_cons (pv 0) (pa_cons (pv 1) pa_nil)))) pe_bl (nomark _))))) (pss_one (ps_ret pe_bl)) pss_nil)
      (pss_cons (ps_for (passes_of rfl) rfl (pi_list (pv 2)) (pg_tup rfl (pgs_cons (pg_name (i := 6) sc_law_right.nd rfl (.inl rfl)) (pgs_cons (pg_name (i := 7) sc_law_right.nd rfl (.inl rfl)) pgs_nil)))
      (pss_one (ps_if (pt_not (pt_val (pe_cal c_law_says (hr.mono (by decide)) (by rfl) (passes_call (takes_of rfl rfl rfl rfl) (fun _ _ _ _ h => h)) (pa_cons (pe_either (pe_calM (pv 3) k_Piece.cl m_Piece_shows (hr.mono (by decide)) (passes_call (takes_of rfl rfl rfl rfl) (fun _ _ _ _ h => h)) (pa_cons (pv 6) (pa_cons (pv 7) pa_nil))) (pe_calM (pv 3) k_Missing.cl m_Missing_shows (hr.mono (by decide)) (passes_call (takes_of rfl rfl rfl rfl) (fun _ _ _ _ h => h)) (pa_cons (pv 6) (pa_cons (pv 7) pa_nil)))) (pa_cons (pe_cal c_law_due (hr.mono (by decide)) (by rfl) (passes_call (takes_of rfl rfl rfl rfl) (fun _ _ _ _ h => h)) (pa_cons (pv 6) (pa_cons (pv 7) (pa_cons (pv 3) pa_nil)))) pa_nil))))) (pss_one (ps_ret pe_bl)) pss_nil)))
      (pss_one (ps_ret pe_bl)))))))), ?_⟩
    have hwl := hw.1
    have htl := ht.1
    refine q_asgC (ea_cons (ev_var rfl) (ea_cons (ev_var rfl) ea_nil)) fun H1 e1 => ?_
    refine ⟨_, _, _, _, rfl, .str W (by omega), .str T (by omega), fun h => (by rw [isText_wd hw] at h; cases h), fun _ h => (by rw [isText_wd ht] at h; cases h), fun w t ew et _ _ => ?_⟩
    cases S_inj (V.str.inj ew); cases S_inj (V.str.inj et)
    refine ⟨fun i r hp x dx H2 hx0 e2 hx => ?_, fun hp b e hb1 hb2 hb3 hb4 hb5 hb6 x dx H2 hx0 e2 hx => ?_⟩
    · have hin : inF T W = true := by unfold inF; rw [hp]; rfl
      have hsh := told_piece hp
      have x2 := e1.trans e2
      have tyx : ∀ H1, Ex H2 H1 → TyX K H1 (.ref x) (.ref a_Piece) := fun H1 e1 => .base (.ins (e1 _ _ hx) k_Piece.cl k_Piece.ha k_Piece.hn k_Piece.htk k_Piece.hm)
      refine q_when (b := false) (et_is (et_or (et_not (et_B (ev_isiX (ev_var rfl) (.own _) tyx q_PA))) fun _ => et_test (ev_op (ev_isiX (ev_var rfl) (.own _) tyx q_PP) (ev_isiX (ev_var rfl) (.own _) tyx q_PM) (rv_eq rfl))) (by decide)) (fun h => nomatch h) (fun _ H3 e3 => ?_)
      have st : ∀ (H1 : Hp), SpV sp_stands [vS W, vS T] H1 (.bl (inF T W)) := fun H1 H2 _ Q q E => ⟨W, T, rfl, q⟩
      have du : ∀ (w t : List Nat) (H1 : Hp), Ex H2 H1 → w.length ≤ 1000 → t.length ≤ 1000 → SpV (sp_due a_Piece a_Missing) [vS w, vS t, .ref x] H1 (.bl (pieceShows (i : Nat) w t)) := fun w t H1 e1 hw' ht' H2 e2 Q q E => ⟨w, t, x, rfl, hw', ht', .inl ⟨dx, (i : Int), e2 _ _ (e1 _ _ hx), q⟩⟩
      have sh : ∀ (w t : List Nat) (H1 : Hp), Ex H2 H1 → w.length ≤ 1000 → t.length ≤ 1000 → SpV (sp_pshows a_Piece) [.ref x, vS w, vS t] H1 (.bl (pieceShows (i : Nat) w t)) := fun w t H1 e1 hw' ht' H2 e2 Q q E => ⟨x, dx, (i : Int), w, t, rfl, e2 _ _ (e1 _ _ hx), hw', ht', q⟩
      refine q_when (b := false) (et_is (et_or (et_test (ev_op (ev_isiX (ev_var rfl) (.own _) (fun H1 e1 => tyx H1 (e3.trans e1)) q_PP) (ev_call (ea_cons (ev_var rfl) (ea_cons (ev_var rfl) ea_nil)) (st H3)) (rv_ne rfl))) fun _ => et_not (et_B (ev_call (ea_cons (ev_var rfl) (ea_cons (ev_var rfl) (ea_cons (ev_var rfl) ea_nil))) (du W T H3 e3 (by omega) (by omega))))) (by rw [hin, hsh]; rfl)) (fun h => nomatch h) (fun _ H4 e4 => ?_)
      have y4 := e3.trans e4
      refine q_asgL (xs := [(i : Int)].map V.int) (el_if (et_B (ev_isiX (ev_var rfl) (.own _) (fun H1 e1 => tyx H1 (y4.trans e1)) q_PP)) (fun h => el_lst (ea_cons (ev_fld (K := K) (ev_var rfl) (y4 _ _ hx) k_Piece.cl (k_Piece.nF _ (by decide)) rfl) ea_nil) (by simp)) (fun h => nomatch h)) fun pf H5 hpf e5 h5 => ?_
      have y5 := y4.trans e5
      refine q_when (b := false) (et_is (et_or (et_not (et_B (ev_all (bs := [(i : Int)].map fun _ => true) ?_))) fun _ => et_test (ev_op (ev_or1 (ev_meth (ev_var rfl) (y5 _ _ hx) rfl (ea_cons (ev_var rfl) (ea_cons (ev_var rfl) ea_nil)) (sh W T H5 y5 (by omega) (by omega)))) ev_c (fun H1 _ Q q => ⟨_, true, rfl, rfl, q H1 (Ex.refl _)⟩))) (by rw [hsh]; rfl)) (fun h => nomatch h) (fun _ H6 e6 => ?_)
      · have eqn : (([(i : Int)].map fun _ => true).map V.bl) = given ([(i : Int)].map V.int).length (fun _ => true) (fun _ => .bl true) := rfl
        rw [eqn]
        refine el_lcL (K := K) (fun _ => true) _ (ev_var rfl) (sq_of h5) (by simp) (fun _ => rfl) (fun n y G f h => et_yes) (fun n y G f h _ => ev_call (ea_cons (ev_var rfl) ea_nil) ?_)
        rw [List.getElem?_map] at h
        obtain ⟨z, rfl⟩ : ∃ z : Int, y = V.int z := by
          cases en : ([(i : Int)])[n]? with
          | none => rw [en] at h; cases h
          | some z => rw [en] at h; exact ⟨z, (Option.some.inj h).symm⟩
        exact fun G2 f2 Q q E => ⟨_, _, rfl, .int z, q⟩
      have y6 := y5.trans e6
      obtain ⟨ol, xs, rfl, ho, hol, hox⟩ := stay_lstP stay_pairS _ _ _ (x2.trans y6) hO
      refine q_forLV (K := K) (P := PairS) (ev_var rfl) ho hox stay_pairS (fun σ' => ∃ y6 y7, σ' = [some (vS W), some (vS T), some (.ref ol), some (.ref x), some (.ref pf), none, y6, y7]) ⟨_, _, rfl⟩ ?_ ?_
      · rintro G _ _ H7 eG e7 ⟨pr, w, t, rfl, hpr, hw', ht'⟩ ⟨z6, z7, rfl⟩
        refine ⟨pr, [vS w, vS t], rfl, st_of hpr, rfl, _, _, rfl, _, _, rfl, rfl, ?_⟩
        have y7 := (y6.trans eG).trans e7
        exact s_when (b := false) (et_is (et_not (et_B (ev_call (ea_cons (ev_or1 (ev_meth (ev_var rfl) (y7 _ _ hx) rfl (ea_cons (ev_var rfl) (ea_cons (ev_var rfl) ea_nil)) (sh w t H7 y7 hw' ht'))) (ea_cons (ev_call (ea_cons (ev_var rfl) (ea_cons (ev_var rfl) (ea_cons (ev_var rfl) ea_nil))) (du w t H7 y7 hw' ht')) ea_nil)) (z := .bl true) (fun G1 f1 Q q E => ⟨_, _, rfl, by rw [beq_self_eq_true]; exact q⟩)))) rfl) (fun h => nomatch h) (fun _ H8 e8 => ⟨⟨_, _, rfl⟩, e7.trans e8⟩)
      · rintro _ H7 ⟨z6, z7, rfl⟩ e7
        exact s_ret ev_c fun H8 e8 => k.go (((x2.trans y6).trans e7).trans e8)
    · have hin : inF T W = false := by unfold inF; rw [hp]; rfl
      have hsh := told_shows hb1 hb2 hb3 hb5 hb6
      have x2 := e1.trans e2
      have tyx : ∀ H1, Ex H2 H1 → TyX K H1 (.ref x) (.ref a_Missing) := fun H1 e1 => .base (.ins (e1 _ _ hx) k_Missing.cl k_Missing.ha k_Missing.hn k_Missing.htk k_Missing.hm)
      refine q_when (b := false) (et_is (et_or (et_not (et_B (ev_isiX (ev_var rfl) (.own _) tyx q_MA))) fun _ => et_test (ev_op (ev_isiX (ev_var rfl) (.own _) tyx q_MP) (ev_isiX (ev_var rfl) (.own _) tyx q_MM) (rv_eq rfl))) (by decide)) (fun h => nomatch h) (fun _ H3 e3 => ?_)
      have st : ∀ (H1 : Hp), SpV sp_stands [vS W, vS T] H1 (.bl (inF T W)) := fun H1 H2 _ Q q E => ⟨W, T, rfl, q⟩
      have du : ∀ (w t : List Nat) (H1 : Hp), Ex H2 H1 → w.length ≤ 1000 → t.length ≤ 1000 → SpV (sp_due a_Piece a_Missing) [vS w, vS t, .ref x] H1 (.bl (missShows (b : Nat) (e : Nat) w t)) := fun w t H1 e1 hw' ht' H2 e2 Q q E => ⟨w, t, x, rfl, hw', ht', .inr ⟨dx, (b : Int), (e : Int), e2 _ _ (e1 _ _ hx), q⟩⟩
      have sh : ∀ (w t : List Nat) (H1 : Hp), Ex H2 H1 → w.length ≤ 1000 → t.length ≤ 1000 → SpV (sp_mshows a_Missing) [.ref x, vS w, vS t] H1 (.bl (missShows (b : Nat) (e : Nat) w t)) := fun w t H1 e1 hw' ht' H2 e2 Q q E => ⟨x, dx, (b : Int), (e : Int), w, t, rfl, e2 _ _ (e1 _ _ hx), hw', ht', q⟩
      refine q_when (b := false) (et_is (et_or (et_test (ev_op (ev_isiX (ev_var rfl) (.own _) (fun H1 e1 => tyx H1 (e3.trans e1)) q_MP) (ev_call (ea_cons (ev_var rfl) (ea_cons (ev_var rfl) ea_nil)) (st H3)) (rv_ne rfl))) fun _ => et_not (et_B (ev_call (ea_cons (ev_var rfl) (ea_cons (ev_var rfl) (ea_cons (ev_var rfl) ea_nil))) (du W T H3 e3 (by omega) (by omega))))) (by rw [hin, hsh]; rfl)) (fun h => nomatch h) (fun _ H4 e4 => ?_)
      have y4 := e3.trans e4
      refine q_asgL (xs := [(b : Int), (e : Int)].map V.int) (el_if (et_B (ev_isiX (ev_var rfl) (.own _) (fun H1 e1 => tyx H1 (y4.trans e1)) q_MP)) (fun h => nomatch h) (fun h => el_lst (ea_cons (ev_fld (K := K) (ev_var rfl) (y4 _ _ hx) k_Missing.cl (k_Missing.nF _ (by decide)) rfl) (ea_cons (ev_fld (K := K) (ev_var rfl) (y4 _ _ hx) k_Missing.cl (k_Missing.nF _ (by decide)) rfl) ea_nil)) (by simp))) fun pf H5 hpf e5 h5 => ?_
      have y5 := y4.trans e5
      refine q_when (b := false) (et_is (et_or (et_not (et_B (ev_all (bs := [(b : Int), (e : Int)].map fun _ => true) ?_))) fun _ => et_test (ev_op (ev_or2 (ev_meth (ev_var rfl) (y5 _ _ hx) rfl (ea_cons (ev_var rfl) (ea_cons (ev_var rfl) ea_nil)) (sh W T H5 y5 (by omega) (by omega)))) ev_c (fun H1 _ Q q => ⟨_, true, rfl, rfl, q H1 (Ex.refl _)⟩))) (by rw [hsh]; rfl)) (fun h => nomatch h) (fun _ H6 e6 => ?_)
      · have eqn : (([(b : Int), (e : Int)].map fun _ => true).map V.bl) = given ([(b : Int), (e : Int)].map V.int).length (fun _ => true) (fun _ => .bl true) := rfl
        rw [eqn]
        refine el_lcL (K := K) (fun _ => true) _ (ev_var rfl) (sq_of h5) (by simp) (fun _ => rfl) (fun n y G f h => et_yes) (fun n y G f h _ => ev_call (ea_cons (ev_var rfl) ea_nil) ?_)
        rw [List.getElem?_map] at h
        obtain ⟨z, rfl⟩ : ∃ z : Int, y = V.int z := by
          cases en : ([(b : Int), (e : Int)])[n]? with
          | none => rw [en] at h; cases h
          | some z => rw [en] at h; exact ⟨z, (Option.some.inj h).symm⟩
        exact fun G2 f2 Q q E => ⟨_, _, rfl, .int z, q⟩
      have y6 := y5.trans e6
      obtain ⟨ol, xs, rfl, ho, hol, hox⟩ := stay_lstP stay_pairS _ _ _ (x2.trans y6) hO
      refine q_forLV (K := K) (P := PairS) (ev_var rfl) ho hox stay_pairS (fun σ' => ∃ y6 y7, σ' = [some (vS W), some (vS T), some (.ref ol), some (.ref x), some (.ref pf), none, y6, y7]) ⟨_, _, rfl⟩ ?_ ?_
      · rintro G _ _ H7 eG e7 ⟨pr, w, t, rfl, hpr, hw', ht'⟩ ⟨z6, z7, rfl⟩
        refine ⟨pr, [vS w, vS t], rfl, st_of hpr, rfl, _, _, rfl, _, _, rfl, rfl, ?_⟩
        have y7 := (y6.trans eG).trans e7
        exact s_when (b := false) (et_is (et_not (et_B (ev_call (ea_cons (ev_or2 (ev_meth (ev_var rfl) (y7 _ _ hx) rfl (ea_cons (ev_var rfl) (ea_cons (ev_var rfl) ea_nil)) (sh w t H7 y7 hw' ht'))) (ea_cons (ev_call (ea_cons (ev_var rfl) (ea_cons (ev_var rfl) (ea_cons (ev_var rfl) ea_nil))) (du w t H7 y7 hw' ht')) ea_nil)) (z := .bl true) (fun G1 f1 Q q E => ⟨_, _, rfl, by rw [beq_self_eq_true]; exact q⟩)))) rfl) (fun h => nomatch h) (fun _ H8 e8 => ⟨⟨_, _, rfl⟩, e7.trans e8⟩)
      · rintro _ H7 ⟨z6, z7, rfl⟩ e7
        exact s_ret ev_c fun H8 e8 => k.go (((x2.trans y6).trans e7).trans e8)

abbrev s_law : Stmt := topS 30
abbrev nm_law : List Str := ["_law_script", "_law_word_here", "_law_other", "_law_texts", "_law_k", "_law_begin", "_law_text", "_law_great", "_law_some"]
theorem sc_law : FnScope nm_law ["_law_script"] (defScope s_law) := ⟨rfl, rfl, rfl, by decide +kernel, rfl, by decide +kernel, by decide +kernel⟩
theorem ok_law {f : Addr} {fd : FuncData} {a_BadText : Addr} {a_BadWord : Addr} {a_Missing : Addr} {a_Piece : Addr} (F : Fun K "law" "law" s_law f fd) (B : Bl mg) (c_told : Cal P w K mg base 3 "told" ["word", "text"] (sp_told a_BadWord a_BadText a_Piece a_Missing)) (c_law_cell_at : Cal P w K mg base 1 "_law_cell_at" ["_law_script", "_law_k"] (sp_cell K)) (c_law_draw : Cal P w K mg base 1 "_law_draw" ["_law_cell", "_law_k", "_law_most"] (sp_draw)) (c_law_word : Cal P w K mg base 3 "_law_word" ["_law_script", "_law_by"] (sp_word K)) (c_law_right : Cal P w K mg base 4 "_law_right" ["_law_word_here", "_law_text", "_law_others"] (sp_right)) (k_Missing : Kl K mg "Missing" a_Missing ["place", "begin", "end"]) (k_Piece : Kl K mg "Piece" a_Piece ["place", "begin", "end"]) (q_MM : PySem.W.kitOne K (.ref a_Missing) (.ref a_Missing) = some true) :
    FnOk P w K mg base (L2.CX P w) 5 f fd ["_law_script"] (sp_law K) := by
  refine F.okX sc_law (fun vs H Q E h => ?_) (fun cdv A outer s H vs Q E hr h => ?_)
  · obtain ⟨a, ns, rfl, hS, hn, hl, k⟩ := h
    first | rfl | (rw [List.length_cons, hl]; rfl)
  · obtain ⟨a, ns, rfl, hS, hn, hl, k⟩ := h
    refine ⟨_, (pss_cons (ps_par (i := 1) (j := 2) (by rfl) sc_law.nd rfl rfl (by decide) rfl rfl (pa_cons (pe_cal c_law_word (hr.mono (by decide)) (by rfl) (passes_call (takes_of rfl rfl rfl rfl) (fun _ _ _ _ h => h)) (pa_cons (pv 0) (pa_cons pe_int pa_nil))) (pa_cons (pe_cal c_law_word (hr.mono (by decide)) (by rfl) (passes_call (takes_of rfl rfl rfl rfl) (fun _ _ _ _ h => h)) (pa_cons (pe_revL (pv 0)) (pa_cons pe_int pa_nil))) pa_nil)) (by rfl))
      (pss_cons (ps_set (i := 3) sc_law.nd rfl (.inl rfl) (pe_lst (pa_cons pe_str (pa_cons (pv 1) (pa_cons (pv 2) (pa_cons (pe_slice sl_str (pv 2) po_none (po_some pe_int)) (pa_cons (pe_op op_add_str (pe_slice sl_str (pv 1) (po_some pe_int) po_none) pe_str) (pa_cons (pe_op op_add_str pe_str (pe_slice sl_str (pv 1) po_none (po_some (pe_un un_neg pe_int)))) (pa_cons (pe_slice sl_str (pv 1) po_none (po_some (pe_un un_neg pe_int))) pa_nil)))))))))
      (pss_cons (ps_for (passes_of rfl) rfl (pi_range1 rfl B.range (pa_cons pe_int pa_nil)) (pg_name (i := 4) sc_law.nd rfl (.inl rfl))
      (pss_cons (ps_set (i := 5) sc_law.nd rfl (.inl rfl) (pe_cal c_law_draw (hr.mono (by decide)) (by rfl) (passes_call (takes_of rfl rfl rfl rfl) (fun _ _ _ _ h => h)) (pa_cons (pe_cal c_law_cell_at (hr.mono (by decide)) (by rfl) (passes_call (takes_of rfl rfl rfl rfl) (fun _ _ _ _ h => h)) (pa_cons (pv 0) (pa_cons (pv 4) pa_nil))) (pa_cons (pe_op op_add (pv 4) pe_int) (pa_cons (pe_op op_add (pe_callB call_len_str (by rfl) B.len PySem.boot_len (pa_cons (pv 1) pa_nil)) pe_int) pa_nil)))))
      (pss_cons (ps_set (i := 6) sc_law.nd rfl (.inl rfl) (pe_slice sl_str (pv 1) (po_some (pv 5)) (po_some (pe_op op_add (pv 5) (pe_cal c_law_draw (hr.mono (by decide)) (by rfl) (passes_call (takes_of rfl rfl rfl rfl) (fun _ _ _ _ h => h)) (pa_cons (pe_cal c_law_cell_at (hr.mono (by decide)) (by rfl) (passes_call (takes_of rfl rfl rfl rfl) (fun _ _ _ _ h => h)) (pa_cons (pv 0) (pa_cons (pe_op op_add (pv 4) pe_int) pa_nil))) (pa_cons (pe_op op_add (pv 4) pe_int) (pa_cons pe_int pa_nil))))))))
      (pss_one (ps_set (i := 3) sc_law.nd rfl (.inl rfl) (pe_op op_cat (pv 3) (pe_lst (pa_cons (pv 6) (pa_cons (pe_op op_add_str (pe_slice sl_str (pv 6) po_none (po_some (pe_un un_neg pe_int))) pe_str) (pa_cons (pe_op op_add_str (pe_slice sl_str (pv 6) po_none (po_some pe_int)) (pe_slice sl_str (pv 1) po_none (po_some pe_int))) (pa_cons (pe_op op_add_str pe_str (pe_slice sl_str (pv 6) po_none (po_some pe_int))) pa_nil)))))))))))
      (pss_cons (ps_for (passes_of rfl) rfl (pi_list (pv 3)) (pg_name (i := 6) sc_law.nd rfl (.inl rfl))
      (pss_one (ps_if (pt_not (pt_val (pe_cal c_law_right (hr.mono (by decide)) (by rfl) (passes_call (takes_of rfl rfl rfl rfl) (fun _ _ _ _ h => h)) (pa_cons (pv 1) (pa_cons (pe_slice sl_str (pv 6) po_none (po_some pe_int)) (pa_cons (pe_lst (pa_cons (pe_tup (pa_cons (pe_revS (pv 1)) (pa_cons (pe_slice sl_str (pv 6) po_none (po_some pe_int)) pa_nil))) (pa_cons (pe_tup (pa_cons (pv 2) (pa_cons (pe_slice sl_str (pv 6) po_none (po_some pe_int)) pa_nil))) (pa_cons (pe_tup (pa_cons (pe_slice sl_str (pv 6) po_none (po_some pe_int)) (pa_cons (pv 1) pa_nil))) pa_nil)))) pa_nil)))))) (pss_one (ps_ret pe_bl)) pss_nil)))
      (pss_cons (ps_set (i := 7) sc_law.nd rfl (.inl rfl) (pe_cal c_told (hr.mono (by decide)) (by rfl) (passes_call (takes_of rfl rfl rfl rfl) (fun _ _ _ _ h => h)) (pa_cons (pe_op op_mul_str pe_str pe_int) (pa_cons (pe_op op_mul_str pe_str pe_int) pa_nil))))
      (pss_cons (ps_if (PW.pt (pw_or (pt_not (pt_val (pe_callB call_isi (by rfl) B.isinstance (by decide +kernel) (pa_cons (pv 7) (pa_cons (pe_glob (v := .ref a_Missing) rfl k_Missing.g rfl) pa_nil))))) (pw_or1 (pt_cmpR (op_neD hr.units) (pe_tup (pa_cons (pe_fld (pv 7) rfl) (pa_cons (pe_fld (pv 7) rfl) pa_nil))) (pe_tup (pa_cons pe_int (pa_cons pe_int pa_nil))) (nomark _))))) (pss_one (ps_ret pe_bl)) pss_nil)
      (pss_cons (ps_set (i := 8) sc_law.nd rfl (.inl rfl) (pe_cal c_told (hr.mono (by decide)) (by rfl) (passes_call (takes_of rfl rfl rfl rfl) (fun _ _ _ _ h => h)) (pa_cons pe_str (pa_cons pe_str pa_nil))))
      (pss_one (ps_ret (pe_and (pe_callB call_isi (by rfl) B.isinstance (by decide +kernel) (pa_cons (pv 8) (pa_cons (pe_glob (v := .ref a_Missing) rfl k_Missing.g rfl) pa_nil))) (pe_and (pe_cmpR (op_inD (units65 hr)) (pe_tup (pa_cons (pe_fld (pv 8) rfl) (pa_cons (pe_fld (pv 8) rfl) pa_nil))) (pe_lst (pa_cons (pe_tup (pa_cons pe_int (pa_cons pe_int pa_nil))) pa_nil)) (by rfl)) (pe_one (pe_cmpR op_eq (pe_fld (pe_cal c_told (hr.mono (by decide)) (by rfl) (passes_call (takes_of rfl rfl rfl rfl) (fun _ _ _ _ h => h)) (pa_cons pe_str (pa_cons pe_str pa_nil))) rfl) pe_int (nomark _)))))))))))))), ?_⟩
    have wd : ∀ (c : Int) (w : List Nat), w.length ≤ 100 → (∀ x ∈ w, x ∈ lettersF c) → Wd w := fun c w h1 h2 => ⟨h1, fun x hx => letters_az c x (h2 x hx)⟩
    have spw : ∀ (p : Addr) (ms : List Int) (b : Nat) (H1 : Hp), SqL K H1 p (ms.map V.int) → ms.length ≤ 63 → (∀ z ∈ ms, Lim 1048577 z) → b ≤ 100 → SpQ (sp_word K) [.ref p, .int (b : Int)] H1 (fun v => ∃ w, v = vS w ∧ Wd w) := fun p ms b H1 hp h1 h2 h3 H2 e2 Q q E =>
      ⟨p, ms, b, rfl, ex_l e2 hp, h2, h1, h3, fun w hw hc H3 e3 => q _ H3 ⟨w, rfl, wd _ w hw hc⟩ e3⟩
    refine q_par2 (P1 := fun v => ∃ w, v = vS w ∧ Wd w) (P2 := fun v => ∃ w, v = vS w ∧ Wd w) (eq_call (ea_cons (ev_var rfl) (ea_cons ev_c ea_nil)) (spw a ns 0 H hS hn hl (by decide)))
      (eq_callL1 (el_rev (K := K) (ev_var rfl) hS) (ea_cons ev_c ea_nil) (fun p H1 hp e1 => spw p ns.reverse 2 H1 (sq_of (by rw [hp, List.map_reverse])) (by rw [List.length_reverse]; exact hn) (fun z hz => hl z (List.mem_reverse.mp hz)) (by decide))) ?_
    rintro _ _ H1 ⟨W, rfl, hW⟩ ⟨O, rfl, hO⟩ e1
    have hWl := hW.1
    have hOl := hO.1
    have cl : ∀ (l : List Nat) (lo hi : Option Int) (n : Nat), l.length ≤ n → (cut l lo hi).length ≤ n := fun l lo hi n h => Nat.le_trans (cut_len _ _ _) h
    have ab : Az [97] ∧ Az [98] ∧ Az [122] := ⟨Az.one (by decide), Az.one (by decide), Az.one (by decide)⟩
    -- the texts
    refine q_asgL (xs := [[], W, O, cut O none (some 3), cut W (some 1) none ++ [97], [98] ++ cut W none (some (-1)), cut W none (some (-1))].map vS) (el_lst (ea_cons ev_c (ea_cons (ev_var rfl) (ea_cons (ev_var rfl) (ea_cons (ev_slS (ev_var rfl) eo_none (eo_some ev_c) (by omega)) (ea_cons (ev_op (ev_slS (ev_var rfl) (eo_some ev_c) eo_none (by omega)) ev_c (rv_addS (b := [97]) (by have := cl W (some 1) none 100 hWl; rw [List.length_singleton]; omega))) (ea_cons (ev_op ev_c (ev_slS (ev_var rfl) eo_none (eo_some (ev_un ev_c ru_neg)) (by omega)) (rv_addS (a := [98]) (by have := cl W none (some (-1)) 100 hWl; rw [List.length_singleton]; omega))) (ea_cons (ev_slS (ev_var rfl) eo_none (eo_some (ev_un ev_c ru_neg)) (by omega)) ea_nil))))))) (by simp)) fun p H2 hp e2 h2 => ?_
    have hts : ∀ t ∈ ([[], W, O, cut O none (some 3), cut W (some 1) none ++ [97], [98] ++ cut W none (some (-1)), cut W none (some (-1))] : List (List Nat)), Az t ∧ t.length ≤ 500 := by
      intro t ht
      simp only [List.mem_cons, List.not_mem_nil, or_false] at ht
      rcases ht with rfl | rfl | rfl | rfl | rfl | rfl | rfl
      · exact ⟨Az.nil, by decide⟩
      · exact ⟨hW.2, by omega⟩
      · exact ⟨hO.2, by omega⟩
      · exact ⟨hO.2.cut, cl _ _ _ _ (by omega)⟩
      · exact ⟨hW.2.cut.app ab.1, by rw [List.length_append, List.length_singleton]; have := cl W (some 1) none 100 hWl; omega⟩
      · exact ⟨ab.2.1.app hW.2.cut, by rw [List.length_append, List.length_singleton]; have := cl W none (some (-1)) 100 hWl; omega⟩
      · exact ⟨hW.2.cut, cl _ _ _ _ (by omega)⟩
    generalize hg : ([[], W, O, cut O none (some 3), cut W (some 1) none ++ [97], [98] ++ cut W none (some (-1)), cut W none (some (-1))] : List (List Nat)) = ts at h2 hts
    have hlen : ts.length = 7 := by rw [← hg]; rfl
    clear hg
    have sz : ∀ (j : Nat) (H1 : Hp), Ex H H1 → SpV (sp_cell K) [.ref a, .int (j : Int)] H1 (.int (cellAt ns j)) := fun j H1 e1 H2 e2 Q q E => ⟨a, ns, j, rfl, ex_l (e1.trans e2) hS, q⟩
    have dr : ∀ (j i : Nat) (m : Int) (H1 : Hp), i ≤ 1000 → 0 < m → SpV sp_draw [.int (cellAt ns j), .int (i : Int), .int m] H1 (.int (drawF (cellAt ns j) i m)) := fun j i m H1 hi hm H2 e2 Q q E => ⟨_, i, _, rfl, (cell_lim hl).mono (by decide), by omega, hm, q⟩
    refine q_forR1 (j := 4) (n := 6) (ea_cons ev_c ea_nil) (by decide) (fun i σ' H' => ∃ p ts x4 x5 x6, σ' = [some (.ref a), some (vS W), some (vS O), some (.ref p), x4, x5, x6, none, none] ∧ H' p = some (.lst (ts.map vS)) ∧ (∀ t ∈ ts, Az t ∧ t.length ≤ 500) ∧ ts.length ≤ 7 + 4 * i ∧ Ex H H')
      (fun H3 e3 => ⟨p, ts, none, none, none, rfl, e3 _ _ h2, hts, by omega, (e1.trans e2).trans e3⟩) ?_ ?_
    · clear hlen hts h2 e2 hp p ts
      rintro i _ H3 hi ⟨p, ts, x4, x5, x6, rfl, h3, hts, hlen, x3⟩
      have c1 : ∀ z : Nat, ((i : Int) + (z : Int)) = ((i + z : Nat) : Int) := fun z => by omega
      refine q_asg (v := .int (drawF (cellAt ns i) (i + 3) ((W.length : Int) + 1))) (ev_call (ea_cons (ev_call (ea_cons (ev_var rfl) (ea_cons (ev_var rfl) ea_nil)) (sz i H3 x3)) (ea_cons (ev_op (ev_var rfl) ev_c rv_I0) (ea_cons (ev_op (ev_lenS (l := W) (ev_var rfl) (by omega)) ev_c rv_I0) ea_nil))) (by
        show SpV sp_draw [_, .int ((i : Int) + ((3 : Nat) : Int)), _] _ _
        rw [c1 3]
        exact dr i (i + 3) _ H3 (by omega) (by omega))) fun H4 e4 => ?_
      generalize drawF (cellAt ns i) (i + 3) ((W.length : Int) + 1) = bg
      have x4' := x3.trans e4
      refine q_asg (ev_slS (ev_var rfl) (eo_some (ev_var rfl)) (eo_some (ev_op (ev_var rfl) (ev_call (ea_cons (ev_call (ea_cons (ev_var rfl) (ea_cons (ev_op (ev_var rfl) ev_c rv_I0) ea_nil)) (z := .int (cellAt ns (i + 1))) (by
        show SpV (sp_cell K) [_, .int ((i : Int) + ((1 : Nat) : Int))] _ _
        rw [c1 1]
        exact sz (i + 1) H4 x4')) (ea_cons (ev_op (ev_var rfl) ev_c rv_I0) (ea_cons ev_c ea_nil))) (z := .int (drawF (cellAt ns (i + 1)) (i + 2) 40)) (by
        show SpV sp_draw [_, .int ((i : Int) + ((2 : Nat) : Int)), _] _ _
        rw [c1 2]
        exact dr (i + 1) (i + 2) _ H4 (by omega) (by decide))) rv_I0)) (by omega)) fun H5 e5 => ?_
      have hT : Az (cut W (some bg) (some (bg + drawF (cellAt ns (i + 1)) (i + 2) 40))) := hW.2.cut
      have hTl : (cut W (some bg) (some (bg + drawF (cellAt ns (i + 1)) (i + 2) 40))).length ≤ 100 := cl _ _ _ _ hWl
      generalize cut W (some bg) (some (bg + drawF (cellAt ns (i + 1)) (i + 2) 40)) = T at hT hTl ⊢
      have x5' := x4'.trans e5
      have l1 := cl T none (some (-1)) 100 hTl
      have l2 := cl T none (some 50) 100 hTl
      have l3 := cl W none (some 9) 100 hWl
      have l4 := cl T none (some 90) 100 hTl
      refine s_asgL (xs := (ts ++ [T, cut T none (some (-1)) ++ [98], cut T none (some 50) ++ cut W none (some 9), [122] ++ cut T none (some 90)]).map vS) ?_ fun p6 H6 hp6 e6 h6 => ⟨p6, _, some (.int (i : Int)), _, _, rfl, h6, fun t ht => ?_, ?_, x5'.trans e6⟩
      · rw [List.map_append]
        exact el_cat (ev_var rfl) (e5 _ _ (e4 _ _ h3)) (el_lst (ea_cons (ev_var rfl) (ea_cons (ev_op (ev_slS (ev_var rfl) eo_none (eo_some (ev_un ev_c ru_neg)) (by omega)) ev_c (rv_addS (b := [98]) (by rw [List.length_singleton]; omega))) (ea_cons (ev_op (ev_slS (ev_var rfl) eo_none (eo_some ev_c) (by omega)) (ev_slS (ev_var rfl) eo_none (eo_some ev_c) (by omega)) (rv_addS (by omega))) (ea_cons (ev_op ev_c (ev_slS (ev_var rfl) eo_none (eo_some ev_c) (by omega)) (rv_addS (a := [122]) (by rw [List.length_singleton]; omega))) ea_nil)))) (by simp)) (by simp; omega)
      · rcases List.mem_append.mp ht with h | h
        · exact hts t h
        · simp only [List.mem_cons, List.not_mem_nil, or_false] at h
          rcases h with rfl | rfl | rfl | rfl
          · exact ⟨hT, by omega⟩
          · exact ⟨hT.cut.app ab.2.1, by rw [List.length_append, List.length_singleton]; omega⟩
          · exact ⟨hT.cut.app hW.2.cut, by rw [List.length_append]; omega⟩
          · exact ⟨ab.2.2.app hT.cut, by rw [List.length_append, List.length_singleton]; omega⟩
      · rw [List.length_append]
        show ts.length + 4 ≤ 7 + 4 * (i + 1)
        omega
    · clear hlen hts h2 e2 hp p ts
      rintro _ H3 ⟨p, ts, x4, x5, x6, rfl, h3, hts, hlen, x3⟩
      -- for text in texts
      refine q_forLV (K := K) (P := fun v _ => ∃ t : List Nat, v = vS t ∧ Az t ∧ t.length ≤ 500) (ev_var rfl) h3 (fun x hx => by
          obtain ⟨t, ht, rfl⟩ := List.mem_map.mp hx
          exact ⟨t, rfl, hts t ht⟩) stay_const (fun σ' => ∃ y6, σ' = [some (.ref a), some (vS W), some (vS O), some (.ref p), x4, x5, y6, none, none]) ⟨_, rfl⟩ ?_ ?_
      · rintro G _ _ H4 eG e4 ⟨T, rfl, hT, hTl⟩ ⟨y6, rfl⟩
        have l100 : ∀ n : Nat, (cut T none (some (n : Int))).length ≤ n := fun n => by
          rw [cut_to, List.length_take]
          omega
        have wT : Wd (cut T none (some 100)) := ⟨l100 100, hT.cut⟩
        have l1 := l100 100
        have l2 := l100 99
        refine s_when (b := false) (et_is (et_not (et_B (ev_callG (z := .bl true) (eag_cons (stay_const (p := fun v => v = vS W)) (Ev.toG (ev_var rfl) (fun _ _ => rfl)) (eag_cons (stay_const (p := fun v => v = vS (cut T none (some 100)))) (Ev.toG (ev_slS (ev_var rfl) eo_none (eo_some ev_c) (by omega)) (fun _ _ => rfl)) (eag_cons (stay_lstP stay_pairS) (EvLG.toG (n := 3) (elg_lst (P := PairS) (by decide) (EvAG.imp (eag_cons stay_pairS (eg_pairS (EvQ.imp (eq_revS (l := W) (ev_var rfl) (by omega)) (fun v hv => by
            obtain ⟨m, e, _, h⟩ := hv
            exact ⟨m, e, by omega⟩)) (Ev.toQ (ev_slS (ev_var rfl) eo_none (eo_some ev_c) (by omega)) ⟨_, rfl, by have h : (cut T none (some 100)).length ≤ 100 := l1; omega⟩))
          (eag_cons stay_pairS (eg_pairS (Ev.toQ (ev_var rfl) ⟨O, rfl, by omega⟩) (Ev.toQ (ev_slS (ev_var rfl) eo_none (eo_some ev_c) (by omega)) ⟨_, rfl, by have h : (cut T none (some 99)).length ≤ 99 := l2; omega⟩))
          (eag_cons stay_pairS (eg_pairS (Ev.toQ (ev_slS (ev_var rfl) eo_none (eo_some ev_c) (by omega)) ⟨_, rfl, by have h : (cut T none (some 100)).length ≤ 100 := l1; omega⟩) (Ev.toQ (ev_var rfl) ⟨W, rfl, by omega⟩)) eag_nil))) (fun vs G hv => ?_)) stay_pairS)) eag_nil))) (fun vs H5 hv e5 => ?_)))) rfl) (fun h => nomatch h) (fun _ H5 e5 => ⟨⟨_, rfl⟩, e4.trans e5⟩)
        · obtain ⟨v1, _, rfl, h1, v2, _, rfl, h2, v3, _, rfl, h3, rfl⟩ := hv
          refine ⟨rfl, fun x hx => ?_⟩
          simp only [List.mem_cons, List.not_mem_nil, or_false] at hx
          rcases hx with rfl | rfl | rfl
          · exact h1
          · exact h2
          · exact h3
        · obtain ⟨v1, _, rfl, rfl, v2, _, rfl, rfl, v3, _, rfl, h3, rfl⟩ := hv
          exact fun H6 e6 Q q E => ⟨W, _, v3, rfl, hW, wT, stay_lstP stay_pairS _ _ _ e6 h3, q⟩
      · rintro _ H4 ⟨y6, rfl⟩ e4
        have aa : ∀ (n : Nat) (H1 : Hp), n ≤ 1000 → RV rMulS (.str (Str.ofString "a")) (.int (n : Int)) H1 (vS (List.replicate n 97)) := fun n H1 hn => by
          have e : (List.replicate n [97]).flatten = List.replicate n 97 := by
            induction n with
            | zero => rfl
            | succ n ih => rw [List.replicate_succ, List.replicate_succ, List.flatten_cons, ih (by omega)]; rfl
          rw [← e, show (Str.ofString "a") = S [97] by decide]
          exact rv_mulS (by simp; omega) (by omega)
        have wa : ∀ n : Nat, n ≤ 100 → Wd (List.replicate n 97) := fun n hn => ⟨by rw [List.length_replicate]; exact hn, fun c hc => by rw [List.eq_of_mem_replicate hc]; decide⟩
        have wds : ∀ l : List Nat, (l.length ≤ 100 ∧ l.all (fun c => azs.contains c) = true) → Wd l := fun l h => ⟨h.1, fun c hc => List.contains_iff_mem.mp (List.all_eq_true.mp h.2 c hc)⟩
        have tyM : ∀ (x dx : Addr) (fs : List (Str × V)) (H1 : Hp), H1 x = some (.ins a_Missing dx fs) → ∀ H2, Ex H1 H2 → TyX K H2 (.ref x) (.ref a_Missing) := fun x dx fs H1 h H2 e => .base (.ins (e _ _ h) k_Missing.cl k_Missing.ha k_Missing.hn k_Missing.htk k_Missing.hm)
        have fb : ∀ (x dx : Addr) (b e : Int) (i : Nat) (H1 : Hp) (σ : L2.St), H1 x = some (.ins a_Missing dx [("begin", .int b), ("end", .int e)]) → σ[i]? = some (some (V.ref x)) → Ev (tFld K (tVar i) "begin") σ H1 (.int b) := fun x dx b e i H1 σ h hv => ev_fld (ev_var hv) h k_Missing.cl (k_Missing.nF _ (by decide)) rfl
        have fe : ∀ (x dx : Addr) (b e : Int) (i : Nat) (H1 : Hp) (σ : L2.St), H1 x = some (.ins a_Missing dx [("begin", .int b), ("end", .int e)]) → σ[i]? = some (some (V.ref x)) → Ev (tFld K (tVar i) "end") σ H1 (.int e) := fun x dx b e i H1 σ h hv => ev_fld (ev_var hv) h k_Missing.cl (k_Missing.nF _ (by decide)) rfl
        -- great
        refine q_asgC (ea_cons (ev_op ev_c ev_c (aa 99 H4 (by decide))) (ea_cons (ev_op ev_c ev_c (aa 100 H4 (by decide))) ea_nil)) fun H5 e5 => ?_
        refine ⟨_, _, _, _, rfl, .str _ (by have := (wa 99 (by decide)).1; omega), .str _ (by have := (wa 100 (by decide)).1; omega), fun h => (by rw [isText_wd (wa 99 (by decide))] at h; cases h), fun _ h => (by rw [isText_wd (wa 100 (by decide))] at h; cases h), fun w t ew et _ _ => ?_⟩
        cases S_inj (V.str.inj ew); cases S_inj (V.str.inj et)
        have pl0 : placesF (List.replicate 99 97) (List.replicate 100 97) = [] := by decide +kernel
        refine ⟨fun i r hp => (by rw [pl0] at hp; cases hp), fun _ b e hb1 hb2 hb3 hb4 hb5 hb6 x dx H6 hx0 e6 hx => ?_⟩
        obtain ⟨rfl, rfl⟩ : e = 100 ∧ b = 0 := by
          have h1 : ∀ j, j < 100 → inF ((List.replicate 100 97).take j) (List.replicate 99 97) = true := by decide +kernel
          have he : e = 100 := by
            rw [List.length_replicate] at hb2
            rcases Nat.lt_or_eq_of_le hb2 with h | h
            · rw [h1 e h] at hb4; cases hb4
            · exact h
          subst he
          have h2 : ∀ j, j < 101 → 1 ≤ j → inF (((List.replicate 100 97).take 100).drop j) (List.replicate 99 97) = true := by decide +kernel
          refine ⟨rfl, ?_⟩
          rcases Nat.eq_zero_or_pos b with h | h
          · exact h
          · have := hb5 b (Nat.le_refl _)
            rw [h2 b (by omega) h] at this
            cases this
        refine q_when (b := false) (et_is (et_or (et_not (et_B (ev_isiX (ev_var rfl) (.own _) (tyM x dx _ H6 hx) q_MM))) fun _ => et_test (ev_opUU (eu_tup (vs := [0, 100].map V.int) (ea_cons (fb x dx _ _ _ H6 _ hx rfl) (ea_cons (fe x dx _ _ _ H6 _ hx rfl) ea_nil)) (by simp)) (eu_tup (vs := [0, 100].map V.int) (ea_cons ev_c (ea_cons ev_c ea_nil)) (by simp)) (fun p q G hp hq e => rv_neTI (K := K) (st_of hp) (st_of hq)))) (by decide)) (fun h => nomatch h) (fun _ H7 e7 => ?_)
        -- some
        refine q_asgC (ea_cons ev_c (ea_cons ev_c ea_nil)) fun H8 e8 => ?_
        have w1 : Wd [98, 97, 110, 97, 110, 97] := wds _ (by decide)
        have w2 : Wd [110, 97, 98] := wds _ (by decide)
        have w3 : Wd [110, 97, 110] := wds _ (by decide)
        refine ⟨_, _, _, _, rfl, .str [98, 97, 110, 97, 110, 97] (by decide), .str [110, 97, 98] (by decide), fun h => (by have z := isText_wd w1; exact absurd (z.symm.trans h) (by decide)), fun _ h => (by have z := isText_wd w2; exact absurd (z.symm.trans h) (by decide)), fun w t ew et _ _ => ?_⟩
        have ew' : w = [98, 97, 110, 97, 110, 97] := (S_inj (V.str.inj ew)).symm
        have et' : t = [110, 97, 98] := (S_inj (V.str.inj et)).symm
        subst ew' et'
        have pl1 : placesF [98, 97, 110, 97, 110, 97] [110, 97, 98] = [] := by decide
        refine ⟨fun i r hp => (by rw [pl1] at hp; cases hp), fun _ b e hb1 hb2 hb3 hb4 hb5 hb6 y dy H9 hy0 e9 hy => ?_⟩
        obtain ⟨rfl, rfl⟩ : e = 3 ∧ b = 1 := by
          have h1 : ∀ j, j < 3 → inF (([110, 97, 98] : List Nat).take j) [98, 97, 110, 97, 110, 97] = true := by decide
          have he : e = 3 := by
            rcases Nat.lt_or_eq_of_le hb2 with h | h
            · rw [h1 e h] at hb4; cases hb4
            · exact h
          subst he
          have h2 : ∀ j, j < 4 → 2 ≤ j → inF ((([110, 97, 98] : List Nat).take 3).drop j) [98, 97, 110, 97, 110, 97] = true := by decide
          have h3 : inF ((([110, 97, 98] : List Nat).take 3).drop 1) [98, 97, 110, 97, 110, 97] = false := by decide
          refine ⟨rfl, ?_⟩
          have hb2' : b < 2 := by
            rcases Nat.lt_or_ge b 2 with h | h
            · exact h
            · have := hb5 b (Nat.le_refl _)
              rw [h2 b (by omega) h] at this
              cases this
          rcases Nat.eq_zero_or_pos b with h | h
          · subst h
            rw [h3] at hb6
            cases hb6
          · omega
        refine (ev_andV (a := true) (b := true) (ev_isiX (ev_var rfl) (.own _) (tyM y dy _ H9 hy) q_MM) fun _ => ev_andV (a := true) (b := true) ?_ fun _ => ?_) H9 (Ex.refl _) _ fun H10 e10 => k H10
        · exact ev_inT (xs := [1, 3]) (eu_tup (vs := [1, 3].map V.int) (ea_cons (fb y dy _ _ _ H9 _ hy rfl) (ea_cons (fe y dy _ _ _ H9 _ hy rfl) ea_nil)) (by simp)) (eu_tup (vs := [1, 3].map V.int) (ea_cons ev_c (ea_cons ev_c ea_nil)) (by simp))
        · intro G1 f1 Q1 q1
          show sp_told a_BadWord a_BadText a_Piece a_Missing [V.str _, V.str _] G1 _ _
          refine ⟨_, _, _, _, rfl, .str [98, 97, 110, 97, 110, 97] (by decide), .str [110, 97, 110] (by decide), fun h => (by have z := isText_wd w1; exact absurd (z.symm.trans h) (by decide)), fun _ h => (by have z := isText_wd w3; exact absurd (z.symm.trans h) (by decide)), fun w t ew et _ _ => ?_⟩
          have ew' : w = [98, 97, 110, 97, 110, 97] := (S_inj (V.str.inj ew)).symm
          have et' : t = [110, 97, 110] := (S_inj (V.str.inj et)).symm
          subst ew' et'
          have pl2 : placesF [98, 97, 110, 97, 110, 97] [110, 97, 110] = [2] := by decide
          refine ⟨fun i r hp z dz G3 hz0 f3 hz => ?_, fun hp => (by rw [pl2] at hp; cases hp)⟩
          rw [pl2] at hp
          cases hp
          exact ⟨z, a_Piece, dz, _, _, rfl, hz, k_Piece.cl, k_Piece.nF _ (by decide), rfl, rfl, q1 _ f3⟩

theorem all_mk {fa : Addr} {a_Answer : Addr} {a_BadText : Addr} {a_BadWord : Addr} {a_Missing : Addr} {a_Piece : Addr} (hfa : mg "law" = some (.ref fa)) (B : Bl mg) (d_is_text : Dn K mg "is_text" s_is_text) (d_places_of : Dn K mg "places_of" s_places_of) (d_is_number : Dn K mg "is_number" s_is_number) (d_law_cell_at : Dn K mg "_law_cell_at" s_law_cell_at) (d_law_draw : Dn K mg "_law_draw" s_law_draw) (d_law_whole : Dn K mg "_law_whole" s_law_whole) (d_law_says : Dn K mg "_law_says" s_law_says) (d_law_stands : Dn K mg "_law_stands" s_law_stands) (d_check_word : Dn K mg "check_word" s_check_word) (d_check_text : Dn K mg "check_text" s_check_text) (d_law_number : Dn K mg "_law_number" s_law_number) (d_law_letters : Dn K mg "_law_letters" s_law_letters) (d_law_due : Dn K mg "_law_due" s_law_due) (d_told : Dn K mg "told" s_told) (d_law_word : Dn K mg "_law_word" s_law_word) (d_law_right : Dn K mg "_law_right" s_law_right) (d_law : Dn K mg "law" s_law) (k_Answer : Kl K mg "Answer" a_Answer ["place", "begin", "end"]) (k_Missing : Kl K mg "Missing" a_Missing ["place", "begin", "end"]) (k_Piece : Kl K mg "Piece" a_Piece ["place", "begin", "end"]) (y_Missing : PySem.W.makesIn K a_Missing = true) (z_Missing : PySem.W.keepIn K (.ref a_Missing) = true) (y_Piece : PySem.W.makesIn K a_Piece = true) (z_Piece : PySem.W.keepIn K (.ref a_Piece) = true) (d_Piece___init : DnM K a_Piece "__init__" "Piece.__init__" s_Piece___init) (d_Missing___init : DnM K a_Missing "__init__" "Missing.__init__" s_Missing___init) (d_Piece_shows : DnM K a_Piece "shows" "Piece.shows" s_Piece_shows) (d_Missing_shows : DnM K a_Missing "shows" "Missing.shows" s_Missing_shows) (g_LETTERS : ∃ u, mg "LETTERS" = some u ∧ RelV (.str (S azs)) u) (g_MOST : ∃ u, mg "MOST" = some u ∧ RelV (.int 100) u) (e_BadText : Er K mg "BadText" (a_BadText) bmE) (e_BadWord : Er K mg "BadWord" (a_BadWord) bmE) (q_PP : PySem.W.kitOne K (.ref a_Piece) (.ref a_Piece) = some true) (q_MP : PySem.W.kitOne K (.ref a_Missing) (.ref a_Piece) = some false) (q_PA : PySem.W.kitOne K (.ref a_Piece) (.ref a_Answer) = some true) (q_MA : PySem.W.kitOne K (.ref a_Missing) (.ref a_Answer) = some true) (q_PM : PySem.W.kitOne K (.ref a_Piece) (.ref a_Missing) = some false) (q_MM : PySem.W.kitOne K (.ref a_Missing) (.ref a_Missing) = some true) :
    ∃ fd : FuncData, (∀ (s : Shared) (u : Value), BindsTo s fd ⟨[u], []⟩ [("_law_script", u)]) ∧ ∀ base : Heap, FnOk P w K mg base (L2.CX P w) 5 fa fd ["_law_script"] (sp_law K) := by
  obtain ⟨f, fd, g, F⟩ := d_law.ex
  have e := hfa.symm.trans g
  cases e
  obtain ⟨oc, od, kV, doc, pm, an, cdv, ct, osl, rfl, lk, hcd⟩ := F.ex
  refine ⟨PySem.W.fnOf "law" "law" (defArgs s_law) (defBody s_law) (defScope s_law) .none kV doc pm an cdv ct, fun s v => .of_eq rfl, fun base => ?_⟩
  have c_is_text : Cal P w K mg base 1 "is_text" ["thing"] (sp_is_text) := cal_mk d_is_text (fun f fd F => ok_is_text F B g_LETTERS g_MOST) (fun _ _ _ _ _ _ us hl => match us, hl with | [_], _ => rfl)
  have c_places_of : Cal P w K mg base 1 "places_of" ["word", "text"] (sp_places_of) := cal_mk d_places_of (fun f fd F => ok_places_of F B) (fun _ _ _ _ _ _ us hl => match us, hl with | [_, _], _ => rfl)
  have c_is_number : Cal P w K mg base 1 "is_number" ["thing"] (sp_is_number) := cal_mk d_is_number (fun f fd F => ok_is_number F B) (fun _ _ _ _ _ _ us hl => match us, hl with | [_], _ => rfl)
  have i_Piece : CalI P w K mg base 1 "Piece" a_Piece ["self", "place"] (sp_init a_Piece 1 fsP) := cali_mk k_Piece y_Piece z_Piece d_Piece___init (fun f fd F => ok_Piece___init F B k_Piece) (fun _ _ _ _ _ _ us hl => match us, hl with | [_, _], _ => rfl)
  have i_Missing : CalI P w K mg base 1 "Missing" a_Missing ["self", "begin", "end"] (sp_init a_Missing 2 fsM) := cali_mk k_Missing y_Missing z_Missing d_Missing___init (fun f fd F => ok_Missing___init F B k_Missing) (fun _ _ _ _ _ _ us hl => match us, hl with | [_, _, _], _ => rfl)
  have c_law_cell_at : Cal P w K mg base 1 "_law_cell_at" ["_law_script", "_law_k"] (sp_cell K) := cal_mk d_law_cell_at (fun f fd F => ok_law_cell_at F B) (fun _ _ _ _ _ _ us hl => match us, hl with | [_, _], _ => rfl)
  have c_law_draw : Cal P w K mg base 1 "_law_draw" ["_law_cell", "_law_k", "_law_most"] (sp_draw) := cal_mk d_law_draw (fun f fd F => ok_law_draw F B) (fun _ _ _ _ _ _ us hl => match us, hl with | [_, _, _], _ => rfl)
  have c_law_whole : Cal P w K mg base 1 "_law_whole" ["_law_number_here"] (sp_whole) := cal_mk d_law_whole (fun f fd F => ok_law_whole F B) (fun _ _ _ _ _ _ us hl => match us, hl with | [_], _ => rfl)
  have c_law_says : Cal P w K mg base 1 "_law_says" ["_law_said", "_law_due_here"] (sp_says) := cal_mk d_law_says (fun f fd F => ok_law_says F B) (fun _ _ _ _ _ _ us hl => match us, hl with | [_, _], _ => rfl)
  have c_law_stands : Cal P w K mg base 1 "_law_stands" ["_law_word_here", "_law_text"] (sp_stands) := cal_mk d_law_stands (fun f fd F => ok_law_stands F B) (fun _ _ _ _ _ _ us hl => match us, hl with | [_, _], _ => rfl)
  have c_check_word : Cal P w K mg base 2 "check_word" ["word"] (sp_check a_BadWord) := cal_mk d_check_word (fun f fd F => ok_check_word F B c_is_text e_BadWord) (fun _ _ _ _ _ _ us hl => match us, hl with | [_], _ => rfl)
  have c_check_text : Cal P w K mg base 2 "check_text" ["text"] (sp_check a_BadText) := cal_mk d_check_text (fun f fd F => ok_check_text F B c_is_text e_BadText) (fun _ _ _ _ _ _ us hl => match us, hl with | [_], _ => rfl)
  have m_Piece_shows : CalM P w K mg base 2 a_Piece "shows" ["self", "word", "text"] (sp_pshows a_Piece) := calm_mk d_Piece_shows (fun f fd F => ok_Piece_shows F B c_places_of c_is_number k_Piece) (fun _ _ _ _ _ _ us hl => match us, hl with | [_, _, _], _ => rfl)
  have m_Missing_shows : CalM P w K mg base 2 a_Missing "shows" ["self", "word", "text"] (sp_mshows a_Missing) := calm_mk d_Missing_shows (fun f fd F => ok_Missing_shows F B c_is_number k_Missing) (fun _ _ _ _ _ _ us hl => match us, hl with | [_, _, _], _ => rfl)
  have c_law_number : Cal P w K mg base 2 "_law_number" ["_law_cell", "_law_k", "_law_limit"] (sp_number) := cal_mk d_law_number (fun f fd F => ok_law_number F B c_law_draw) (fun _ _ _ _ _ _ us hl => match us, hl with | [_, _, _], _ => rfl)
  have c_law_letters : Cal P w K mg base 2 "_law_letters" ["_law_script", "_law_by"] (sp_letters K) := cal_mk d_law_letters (fun f fd F => ok_law_letters F B c_law_cell_at c_law_draw) (fun _ _ _ _ _ _ us hl => match us, hl with | [_, _], _ => rfl)
  have c_law_due : Cal P w K mg base 2 "_law_due" ["_law_word_here", "_law_text", "_law_found"] (sp_due a_Piece a_Missing) := cal_mk d_law_due (fun f fd F => ok_law_due F B c_law_stands k_Missing k_Piece q_PP q_MP) (fun _ _ _ _ _ _ us hl => match us, hl with | [_, _, _], _ => rfl)
  have c_told : Cal P w K mg base 3 "told" ["word", "text"] (sp_told a_BadWord a_BadText a_Piece a_Missing) := cal_mk d_told (fun f fd F => ok_told F B c_check_word c_check_text i_Missing i_Piece) (fun _ _ _ _ _ _ us hl => match us, hl with | [_, _], _ => rfl)
  have c_law_word : Cal P w K mg base 3 "_law_word" ["_law_script", "_law_by"] (sp_word K) := cal_mk d_law_word (fun f fd F => ok_law_word F B c_law_cell_at c_law_draw c_law_number c_law_letters) (fun _ _ _ _ _ _ us hl => match us, hl with | [_, _], _ => rfl)
  have c_law_right : Cal P w K mg base 4 "_law_right" ["_law_word_here", "_law_text", "_law_others"] (sp_right) := cal_mk d_law_right (fun f fd F => ok_law_right F B c_told c_law_whole c_law_says c_law_stands c_law_due k_Answer k_Missing k_Piece m_Missing_shows m_Piece_shows q_PA q_MA q_PP q_MP q_PM q_MM) (fun _ _ _ _ _ _ us hl => match us, hl with | [_, _, _], _ => rfl)
  exact ok_law F B c_told c_law_cell_at c_law_draw c_law_word c_law_right k_Missing k_Piece q_MM
end
end WP
open PySem PySem.W PyProof.Rows
set_option maxHeartbeats 0 in
theorem PySem.Challenge.cw_wordpieces_k04_whole_told_holds : PySem.Challenge.rw_wordpieces_k04_whole_told.Holds := by
  w_on; o_law; k_head; (case hw => w_witness2)
  k_fill
  refine L2.walk_ofB (l := PySem.Challenge.rw_wordpieces_k04_whole_told) (n := 63) (k := 5) (x := "_law_script") (CX := fun w => L2.CX PySem.Challenge.rw_wordpieces_k04_whole_told.prog w) (sp := fun w => WP.sp_law _) rfl (by decide) rfl ⟨rfl, by decide, by decide⟩ (fun w h Y => PySem.W.kIn_of Y) ?F (fun _ _ a ns hl hb _ hS => ⟨a, ns, rfl, hS, hl, fun z hz => WP.Lim.of_bits (hb z hz), fun _ => rfl⟩) (fun _ _ _ _ _ h => WP.cx_no h)
  case F =>
    intro w mg fa h KX G hmg
    have B : WP.Bl mg := by
      constructor <;> (refine PySem.W.mg_none_of KX G ?_; k_is)
    have d_is_text : WP.Dn (WP.KOf KX) mg "is_text" WP.s_is_text := by
      dsimp only [WP.KOf]
      refine' WP.dn_mk KX G ?a ?l ?c ?k
      (case a => k_is); (case l => k_is); (case c => k_is); (case k => k_is)
    have d_places_of : WP.Dn (WP.KOf KX) mg "places_of" WP.s_places_of := by
      dsimp only [WP.KOf]
      refine' WP.dn_mk KX G ?a ?l ?c ?k
      (case a => k_is); (case l => k_is); (case c => k_is); (case k => k_is)
    have d_is_number : WP.Dn (WP.KOf KX) mg "is_number" WP.s_is_number := by
      dsimp only [WP.KOf]
      refine' WP.dn_mk KX G ?a ?l ?c ?k
      (case a => k_is); (case l => k_is); (case c => k_is); (case k => k_is)
    have d_law_cell_at : WP.Dn (WP.KOf KX) mg "_law_cell_at" WP.s_law_cell_at := by
      dsimp only [WP.KOf]
      refine' WP.dn_mk KX G ?a ?l ?c ?k
      (case a => k_is); (case l => k_is); (case c => k_is); (case k => k_is)
    have d_law_draw : WP.Dn (WP.KOf KX) mg "_law_draw" WP.s_law_draw := by
      dsimp only [WP.KOf]
      refine' WP.dn_mk KX G ?a ?l ?c ?k
      (case a => k_is); (case l => k_is); (case c => k_is); (case k => k_is)
    have d_law_whole : WP.Dn (WP.KOf KX) mg "_law_whole" WP.s_law_whole := by
      dsimp only [WP.KOf]
      refine' WP.dn_mk KX G ?a ?l ?c ?k
      (case a => k_is); (case l => k_is); (case c => k_is); (case k => k_is)
    have d_law_says : WP.Dn (WP.KOf KX) mg "_law_says" WP.s_law_says := by
      dsimp only [WP.KOf]
      refine' WP.dn_mk KX G ?a ?l ?c ?k
      (case a => k_is); (case l => k_is); (case c => k_is); (case k => k_is)
    have d_law_stands : WP.Dn (WP.KOf KX) mg "_law_stands" WP.s_law_stands := by
      dsimp only [WP.KOf]
      refine' WP.dn_mk KX G ?a ?l ?c ?k
      (case a => k_is); (case l => k_is); (case c => k_is); (case k => k_is)
    have d_check_word : WP.Dn (WP.KOf KX) mg "check_word" WP.s_check_word := by
      dsimp only [WP.KOf]
      refine' WP.dn_mk KX G ?a ?l ?c ?k
      (case a => k_is); (case l => k_is); (case c => k_is); (case k => k_is)
    have d_check_text : WP.Dn (WP.KOf KX) mg "check_text" WP.s_check_text := by
      dsimp only [WP.KOf]
      refine' WP.dn_mk KX G ?a ?l ?c ?k
      (case a => k_is); (case l => k_is); (case c => k_is); (case k => k_is)
    have d_law_number : WP.Dn (WP.KOf KX) mg "_law_number" WP.s_law_number := by
      dsimp only [WP.KOf]
      refine' WP.dn_mk KX G ?a ?l ?c ?k
      (case a => k_is); (case l => k_is); (case c => k_is); (case k => k_is)
    have d_law_letters : WP.Dn (WP.KOf KX) mg "_law_letters" WP.s_law_letters := by
      dsimp only [WP.KOf]
      refine' WP.dn_mk KX G ?a ?l ?c ?k
      (case a => k_is); (case l => k_is); (case c => k_is); (case k => k_is)
    have d_law_due : WP.Dn (WP.KOf KX) mg "_law_due" WP.s_law_due := by
      dsimp only [WP.KOf]
      refine' WP.dn_mk KX G ?a ?l ?c ?k
      (case a => k_is); (case l => k_is); (case c => k_is); (case k => k_is)
    have d_told : WP.Dn (WP.KOf KX) mg "told" WP.s_told := by
      dsimp only [WP.KOf]
      refine' WP.dn_mk KX G ?a ?l ?c ?k
      (case a => k_is); (case l => k_is); (case c => k_is); (case k => k_is)
    have d_law_word : WP.Dn (WP.KOf KX) mg "_law_word" WP.s_law_word := by
      dsimp only [WP.KOf]
      refine' WP.dn_mk KX G ?a ?l ?c ?k
      (case a => k_is); (case l => k_is); (case c => k_is); (case k => k_is)
    have d_law_right : WP.Dn (WP.KOf KX) mg "_law_right" WP.s_law_right := by
      dsimp only [WP.KOf]
      refine' WP.dn_mk KX G ?a ?l ?c ?k
      (case a => k_is); (case l => k_is); (case c => k_is); (case k => k_is)
    have d_law : WP.Dn (WP.KOf KX) mg "law" WP.s_law := by
      dsimp only [WP.KOf]
      refine' WP.dn_mk KX G ?a ?l ?c ?k
      (case a => k_is); (case l => k_is); (case c => k_is); (case k => k_is)
    have g_LETTERS : ∃ u, mg "LETTERS" = some u ∧ L2.RelV (.str (SX.S WP.azs)) u := by
      refine' WP.gs_mk KX G ?a
      (case a => k_is)
    have g_MOST : ∃ u, mg "MOST" = some u ∧ L2.RelV (.int 100) u := by
      refine' WP.gi_mk KX G ?a
      (case a => k_is)
    obtain ⟨a_BadText, e_BadText⟩ : ∃ C, WP.Er (WP.KOf KX) mg "BadText" C WP.bmE := by
      dsimp only [WP.KOf]
      refine' ⟨_, WP.er_mk KX G ?a ?x ?k ?b ?t⟩
      (case a => k_is); (case x => first | k_exc | k_is); (case k => k_is); (case b => k_is); (case t => k_is)
    obtain ⟨a_BadWord, e_BadWord⟩ : ∃ C, WP.Er (WP.KOf KX) mg "BadWord" C WP.bmE := by
      dsimp only [WP.KOf]
      refine' ⟨_, WP.er_mk KX G ?a ?x ?k ?b ?t⟩
      (case a => k_is); (case x => first | k_exc | k_is); (case k => k_is); (case b => k_is); (case t => k_is)
    obtain ⟨a_Answer, a_Missing, a_Piece, k_Answer, k_Missing, k_Piece, y_Missing, z_Missing, y_Piece, z_Piece, d_Piece___init, d_Missing___init, d_Piece_shows, d_Missing_shows, q_PP, q_MP, q_PA, q_MA, q_PM, q_MM⟩ : ∃ C_Answer C_Missing C_Piece, WP.Kl (WP.KOf KX) mg "Answer" C_Answer ["place", "begin", "end"] ∧ WP.Kl (WP.KOf KX) mg "Missing" C_Missing ["place", "begin", "end"] ∧ WP.Kl (WP.KOf KX) mg "Piece" C_Piece ["place", "begin", "end"] ∧ PySem.W.makesIn (WP.KOf KX) C_Missing = true ∧ PySem.W.keepIn (WP.KOf KX) (.ref C_Missing) = true ∧ PySem.W.makesIn (WP.KOf KX) C_Piece = true ∧ PySem.W.keepIn (WP.KOf KX) (.ref C_Piece) = true ∧ WP.DnM (WP.KOf KX) C_Piece "__init__" "Piece.__init__" WP.s_Piece___init ∧ WP.DnM (WP.KOf KX) C_Missing "__init__" "Missing.__init__" WP.s_Missing___init ∧ WP.DnM (WP.KOf KX) C_Piece "shows" "Piece.shows" WP.s_Piece_shows ∧ WP.DnM (WP.KOf KX) C_Missing "shows" "Missing.shows" WP.s_Missing_shows ∧ PySem.W.kitOne (WP.KOf KX) (.ref C_Piece) (.ref C_Piece) = some true ∧ PySem.W.kitOne (WP.KOf KX) (.ref C_Missing) (.ref C_Piece) = some false ∧ PySem.W.kitOne (WP.KOf KX) (.ref C_Piece) (.ref C_Answer) = some true ∧ PySem.W.kitOne (WP.KOf KX) (.ref C_Missing) (.ref C_Answer) = some true ∧ PySem.W.kitOne (WP.KOf KX) (.ref C_Piece) (.ref C_Missing) = some false ∧ PySem.W.kitOne (WP.KOf KX) (.ref C_Missing) (.ref C_Missing) = some true := by
      dsimp only [WP.KOf]
      refine' ⟨_, _, _, WP.kl_mk KX G ?aAnswer ?bAnswer ?cAnswer ?dAnswer ?eAnswer ?fAnswer ?gAnswer ?hAnswer ?iAnswer ?jAnswer ?kAnswer ?lAnswer, WP.kl_mk KX G ?aMissing ?bMissing ?cMissing ?dMissing ?eMissing ?fMissing ?gMissing ?hMissing ?iMissing ?jMissing ?kMissing ?lMissing, WP.kl_mk KX G ?aPiece ?bPiece ?cPiece ?dPiece ?ePiece ?fPiece ?gPiece ?hPiece ?iPiece ?jPiece ?kPiece ?lPiece, ?yMissing, ?zMissing, ?yPiece, ?zPiece, WP.dnm_mk ?pPiece___init ?qPiece___init ?rPiece___init ?sPiece___init ?tPiece___init, WP.dnm_mk ?pMissing___init ?qMissing___init ?rMissing___init ?sMissing___init ?tMissing___init, WP.dnm_mk ?pPiece_shows ?qPiece_shows ?rPiece_shows ?sPiece_shows ?tPiece_shows, WP.dnm_mk ?pMissing_shows ?qMissing_shows ?rMissing_shows ?sMissing_shows ?tMissing_shows, ?xq_PP, ?xq_MP, ?xq_PA, ?xq_MA, ?xq_PM, ?xq_MM⟩
      (case aAnswer => first | k_is | rfl); (case bAnswer => first | k_is | rfl); (case cAnswer => first | k_is | rfl); (case dAnswer => first | k_is | rfl); (case eAnswer => first | k_is | rfl); (case fAnswer => first | k_is | rfl); (case gAnswer => first | k_is | rfl); (case hAnswer => first | k_is | rfl); (case iAnswer => first | k_is | rfl); (case jAnswer => first | k_is | rfl); (case kAnswer => first | k_is | rfl); (case lAnswer => first | k_is | rfl)
      (case aMissing => first | k_is | rfl); (case bMissing => first | k_is | rfl); (case cMissing => first | k_is | rfl); (case dMissing => first | k_is | rfl); (case eMissing => first | k_is | rfl); (case fMissing => first | k_is | rfl); (case gMissing => first | k_is | rfl); (case hMissing => first | k_is | rfl); (case iMissing => first | k_is | rfl); (case jMissing => first | k_is | rfl); (case kMissing => first | k_is | rfl); (case lMissing => first | k_is | rfl)
      (case aPiece => first | k_is | rfl); (case bPiece => first | k_is | rfl); (case cPiece => first | k_is | rfl); (case dPiece => first | k_is | rfl); (case ePiece => first | k_is | rfl); (case fPiece => first | k_is | rfl); (case gPiece => first | k_is | rfl); (case hPiece => first | k_is | rfl); (case iPiece => first | k_is | rfl); (case jPiece => first | k_is | rfl); (case kPiece => first | k_is | rfl); (case lPiece => first | k_is | rfl)
      (case yMissing => first | k_is | rfl)
      (case zMissing => first | k_is | rfl)
      (case yPiece => first | k_is | rfl)
      (case zPiece => first | k_is | rfl)
      (case pPiece___init => first | k_is | rfl); (case qPiece___init => first | k_is | rfl); (case rPiece___init => first | k_is | rfl); (case sPiece___init => first | k_is | rfl); (case tPiece___init => first | k_is | rfl)
      (case pMissing___init => first | k_is | rfl); (case qMissing___init => first | k_is | rfl); (case rMissing___init => first | k_is | rfl); (case sMissing___init => first | k_is | rfl); (case tMissing___init => first | k_is | rfl)
      (case pPiece_shows => first | k_is | rfl); (case qPiece_shows => first | k_is | rfl); (case rPiece_shows => first | k_is | rfl); (case sPiece_shows => first | k_is | rfl); (case tPiece_shows => first | k_is | rfl)
      (case pMissing_shows => first | k_is | rfl); (case qMissing_shows => first | k_is | rfl); (case rMissing_shows => first | k_is | rfl); (case sMissing_shows => first | k_is | rfl); (case tMissing_shows => first | k_is | rfl)
      (case xq_PP => first | k_is | rfl)
      (case xq_MP => first | k_is | rfl)
      (case xq_PA => first | k_is | rfl)
      (case xq_MA => first | k_is | rfl)
      (case xq_PM => first | k_is | rfl)
      (case xq_MM => first | k_is | rfl)
    obtain ⟨fd, h1, h2⟩ := WP.all_mk (P := PySem.Challenge.rw_wordpieces_k04_whole_told.prog) (w := w) hmg B d_is_text d_places_of d_is_number d_law_cell_at d_law_draw d_law_whole d_law_says d_law_stands d_check_word d_check_text d_law_number d_law_letters d_law_due d_told d_law_word d_law_right d_law k_Answer k_Missing k_Piece y_Missing z_Missing y_Piece z_Piece d_Piece___init d_Missing___init d_Piece_shows d_Missing_shows g_LETTERS g_MOST e_BadText e_BadWord q_PP q_MP q_PA q_MA q_PM q_MM
    exact ⟨fd, h1, fun base _ _ => h2 base⟩
