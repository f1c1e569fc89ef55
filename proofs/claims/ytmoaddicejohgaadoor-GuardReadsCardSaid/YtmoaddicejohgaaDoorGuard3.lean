/- Walks of guard: low; bytes.Clone; packet.within. No further conditions. -/
import Derived.Test.YtmoaddicejohgaaDoorGuard2
import Derived.Test.YtmoaddicejohgaaDoorBits
set_option linter.unusedSimpArgs false
set_option linter.unusedVariables false
set_option maxRecDepth 100000
set_option maxHeartbeats 4000000
namespace Go.Proofs.YtmoaddicejohgaaDoor
open Go
open List (getD_cons_zero getD_cons_succ set_cons_zero set_cons_succ)

/-- The number of bytes. -/
def lowN (l : List UInt8) : Nat → Nat
  | 0 => 0
  | i + 1 => lowN l i * 2 ^ 8 ||| (l.getD i 0).toNat
theorem lowN_lt (l : List UInt8) : ∀ i, lowN l i < 2 ^ (8 * i)
  | 0 => Nat.zero_lt_one
  | i + 1 => by
    have ih := lowN_lt l i
    unfold lowN
    have h2 : (2 : Nat) ^ (8 * (i + 1)) = 2 ^ (8 * i) * 2 ^ 8 := by rw [← Nat.pow_add]; rfl
    refine Nat.or_lt_two_pow ?_ ?_
    · rw [h2]; exact Nat.mul_lt_mul_of_pos_right ih (by decide)
    · have := lt_u8 (l.getD i 0)
      have h3 : 1 ≤ 2 ^ (8 * i) := Nat.one_le_two_pow
      rw [h2]
      calc (l.getD i 0).toNat < 256 := this
        _ = 1 * 2 ^ 8 := rfl
        _ ≤ 2 ^ (8 * i) * 2 ^ 8 := Nat.mul_le_mul_right _ h3
theorem lowN_32 (l : List UInt8) (i : Nat) (h : i ≤ 4) : lowN l i < 4294967296 := Nat.lt_of_lt_of_le (lowN_lt l i) (by
  have : (2 : Nat) ^ (8 * i) ≤ 2 ^ 32 := Nat.pow_le_pow_right (by decide) (by omega)
  exact this)

theorem low_calls (v : Value) (l : List UInt8) (w : World) (hv : Sl w v l) (hl : l.length ≤ 4) : Ret Tryd.prog 28 #[v] w fun v' w' => v' = I64 (lowN l l.length : Nat) ∧ Chg [] w w' := by
 refine Ret.enter Tryd.func28 rfl ?_
 simp only [Tryd.ntmps28, fe, Nat.reduceAdd, Nat.reduceSub]
 have hH := Hp.start [] w
 refine wp_seq_k ?_
 intro K1 hK1
 refine wrt [.p 0] ?_
 refine pka 0 ?_;simp only [nf]
 refine plan_nil hH ?_
 clear hH
 intro w2 hH
 refine hK1 _ _ ?_
 (try clear hK1 K1)
 refine wp_seq_k ?_
 intro K3 hK3
 refine wrt [.p 0] ?_
 refine pka 0 ?_;simp only [nf]
 refine plan_nil hH ?_
 clear hH
 intro w4 hH
 refine hK3 _ _ ?_
 (try clear hK3 K3)
 refine wp_seq_k ?_
 intro K5 hK5
 refine wp_seq_k ?_
 intro K6 hK6
 refine wrt [.p 0, .p 1, .p 2] ?_
 refine pm ?_;simp only [nf]
 refine pp rfl rfl (pr_len_Sl (hv.chg hH.chg) rfl Tryd.underlying22) ?_;simp only [nf]
 refine pk 0 ?_;simp only [nf]
 refine plan_nil hH ?_
 clear hH
 intro w7 hH
 refine hK6 _ _ ?_
 (try clear hK6 K6)
 refine wp_block ?_
 refine wp_loopT [3, 8] [5, 9, 10, 11, 12, 13, 14, 15, 16, 17] (fun (n8 : Nat) (vs : List Value) (w' : World) => ∃ (i : Nat), vs = [I64 (lowN l i : Nat), I64 (i : Nat)] ∧ Hp [] w w' [] ∧ n8 = l.length - i ∧ i ≤ l.length) (l.length - 0) (by kernel_rfl) ?_ ?_
 ·
  simp only [ga]
  refine ⟨0, rfl, ?_, rfl, ?_⟩
  ·
   exact hH
  · first | omega | (omega)
 clear hH
 intro n8 vs9 w10 hR11 d0
 obtain ⟨i, rfl, hH, hn12, hf13⟩ := hR11
 simp only [putAll, putD, List.set_cons_zero, List.set_cons_succ, Nat.zero_add, Nat.reduceAdd]
 have hlw := lowN_32 l i (by omega)
 refine wp_seq_k ?_
 intro K14 hK14
 refine wrt [.p 0] ?_
 refine pp rfl rfl (pr_bin rfl rfl (by first | exact bin_lss_n  | exact bin_lss_i)) ?_;simp only [nf]
 refine plan_nil hH ?_
 clear hH
 intro w15 hH
 refine hK14 _ _ ?_
 (try clear hK14 K14)
 refine wp_seq_k ?_
 intro K16 hK16
 refine wp_cond_split rfl (fun hc17 => ?_) (fun hc17 => ?_)
 ·
  (try simp only [cnd] at hc17)
  refine wp_skip ?_
  refine hK16 _ _ ?_
  (try clear hK16 K16)
  refine wp_seq_k ?_
  intro K18 hK18
  refine wp_block ?_
  refine wp_seq_k ?_
  intro K19 hK19
  refine wrt [.p 0, .q 1, .p 2] ?_
  refine pp rfl rfl (pr_idx_Sl (hv.chg hH.chg) rfl rfl Tryd.underlying22 sz5 (by first | omega | (first | omega | (have := lt_u8 (l.getD i 0); omega)))) ?_;simp only [nf]
  refine pq rfl rfl (qr_load1 rfl Tryd.underlying5 rfl (Sl.cell (hv.chg hH.chg) (by first | omega | (first | omega | (have := lt_u8 (l.getD i 0); omega))))) ?_;simp only [nf]
  refine pa ?_;simp only [nf]
  refine plan_nil hH ?_
  clear hH
  intro w20 hH
  refine hK19 _ _ ?_
  (try clear hK19 K19)
  refine wrt [.p 0, .p 1, .p 2, .p 3, .p 4, .p 5] ?_
  refine pm ?_;simp only [nf]
  refine pp rfl rfl (pr_bin rfl rfl (bin_shl_n (c := 8) (by decide) (by first | omega | (first | omega | (have := lt_u8 (l.getD i 0); omega))))) ?_;simp only [nf]
  refine pm ?_;simp only [nf]
  refine pp rfl rfl (pr_conv rfl (cnv_u8_n _ Tryd.underlying5 Tryd.underlying3)) ?_;simp only [nf]
  refine pp rfl rfl (pr_bin rfl rfl (by first | exact bin_or_n (by first | omega | (first | omega | (have := lt_u8 (l.getD i 0); omega))) (by first | omega | (first | omega | (have := lt_u8 (l.getD i 0); omega))))) ?_;simp only [nf]
  refine pa ?_;simp only [nf]
  refine plan_nil hH ?_
  clear hH
  intro w21 hH
  refine hK18 _ _ ?_
  (try clear hK18 K18)
  refine wrt [.p 0, .p 1] ?_
  refine pp rfl rfl (pr_bin rfl rfl (by first | exact bin_add_n (n := 1) (by first | omega | (first | omega | (have := lt_u8 (l.getD i 0); omega))) | exact bin_add_i (by first | omega | (first | omega | (have := lt_u8 (l.getD i 0); omega))) (by first | omega | (first | omega | (have := lt_u8 (l.getD i 0); omega))))) ?_;simp only [nf]
  refine pm ?_;simp only [nf]
  refine plan_nil hH ?_
  clear hH
  intro w22 hH
  (try simp only [Exit.then, Exit.inBlock, ↓reduceIte, Nat.reduceEqDiff])
  refine ⟨l.length - (i + 1), ?_, _, rfl, by kernel_rfl, ?_⟩
  · first | omega | (omega)
  simp only [ga]
  refine ⟨i + 1, rfl, ?_, rfl, ?_⟩
  ·
   exact hH
  · first | omega | (omega)
 ·
  (try simp only [cnd] at hc17)
  refine wp_exit ?_
  (try simp only [Exit.then, Exit.inBlock, ↓reduceIte, Nat.reduceEqDiff])
  refine hK5 _ _ ?_
  (try clear hK5 K5)
  refine wp_seq_k ?_
  intro K23 hK23
  refine wrt [.p 0, .p 1] ?_
  refine pm (pa ?_);simp only [nf]
  refine plan_nil hH ?_
  clear hH
  intro w24 hH
  refine hK23 _ _ ?_
  (try clear hK23 K23)
  refine wp_ret ?_
  (try simp only [Exit.then, Exit.inBlock, ↓reduceIte, Nat.reduceEqDiff])
  refine BP.ret1 rfl rfl ?_
  obtain rfl : i = l.length := by omega
  exact ⟨rfl, hH.chg⟩

theorem within_calls (a b c : Nat) (w : World) (h : b ≤ a ∧ a ≤ c) : Ret Tryd.prog 49 #[I64 a, I64 b, I64 c] w fun v w' => v = BV true ∧ Chg [] w w' := by
 refine Ret.enter Tryd.func49 rfl ?_
 simp only [Tryd.ntmps49, fe, Nat.reduceAdd, Nat.reduceSub]
 have hH := Hp.start [] w
 refine wp_seq_k ?_
 intro K1 hK1
 refine wrt [.p 0] ?_
 refine pa ?_;simp only [nf]
 refine plan_nil hH ?_
 clear hH
 intro w2 hH
 refine hK1 _ _ ?_
 (try clear hK1 K1)
 refine wp_seq_k ?_
 intro K3 hK3
 refine wrt [.p 0, .p 1, .p 2, .p 3, .p 4, .p 5, .p 6, .p 7, .p 8] ?_
 refine pm (pm ?_);simp only [nf]
 refine pp rfl rfl (pr_bin rfl rfl (by first | exact bin_geq_n  | exact bin_geq_i)) ?_;simp only [nf]
 refine plan_p (v := BV true) rfl rfl (pr_move_v (by show BV _ = _; exact congrArg BV (decide_eq_true (by omega)))) ?_
 (try simp only [nf])
 refine pp rfl rfl pr_move ?_;simp only [nf]
 refine pp rfl rfl pr_move ?_;simp only [nf]
 refine pp rfl rfl (pr_bin rfl rfl (by first | exact bin_leq_n  | exact bin_leq_i)) ?_;simp only [nf]
 refine pp rfl rfl (pr_pick_t rfl) ?_;simp only [nf]
 refine pa ?_;simp only [nf]
 refine plan_nil hH ?_
 clear hH
 intro w4 hH
 refine hK3 _ _ ?_
 (try clear hK3 K3)
 refine wp_ret ?_
 (try simp only [Exit.then, Exit.inBlock, ↓reduceIte, Nat.reduceEqDiff])
 refine BP.ret1 rfl rfl ?_
 exact ⟨congrArg BV (decide_eq_true h.2), hH.chg⟩

end Go.Proofs.YtmoaddicejohgaaDoor
