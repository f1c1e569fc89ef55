/- Packed: Vlq0, Gcm0, Gcm1, Field, GcmS, GcmL, Guard2, Guard3, Guard4, Guard5, Guard6, Frame, Wide, GcmH, GcmT, Guard8, GuardK, Secrets, Laid, RhyneSecrets, RhyneSecretsCard, as far as rhyneSecretsCard_holds needs them. No conditions but those that stand in the statements. -/
import Derived.Test.YtdkjdioccpoacaaDoorSx2
import Derived.KernelRfl
import Derived.Carry
import Derived.OpenShut
import Derived.Handed
import Derived.ProofKit
import Derived.HandedShaped
import Derived.Test.YtdkjdioccpoacaaDoorRows
import Derived.LaidMore
import Derived.Stop.Joined
import Derived.MakeChecks
import Derived.ChangeMaps5
import Derived.Test.YtdkjdioccpoacaaDoorCards
import Derived.Test.YtdkjdioccpoacaaDoorTie
import Derived.SevenTiedAt
set_option linter.unusedSimpArgs false
set_option linter.unusedVariables false
set_option maxRecDepth 100000
set_option maxHeartbeats 4000000
namespace Go.Proofs.YtdkjdioccpoacaaDoor
open Go
open List (getD_cons_zero getD_cons_succ set_cons_zero set_cons_succ)
def dbj64 (i : Nat) : UInt8 := ([0, 1, 56, 2, 57, 49, 28, 3, 61, 58, 42, 50, 38, 29, 17, 4, 62, 47, 59, 36, 45, 43, 51, 22, 53, 39, 33, 30, 24, 18, 12, 5, 63, 55, 48, 27, 60, 41, 37, 16, 46, 35, 44, 21, 52, 32, 23, 11, 54, 26, 40, 15, 34, 20, 31, 10, 25, 14, 19, 9, 13, 8, 7, 6] : List UInt8).getD i 0
def TabZ (w : World) : Prop := ∀ i, i < 64 → w.cell? ⟨3, i, none⟩ = some (V8 (dbj64 i))
theorem TabZ.grow {w w' : World} (h : TabZ w) (hc : Chg [] w w') : TabZ w' := fun i hi => hc.cell (h i hi) (by simp)
def tzN (s : Nat) : Nat := if s = 1 then 0 else if s = 2 then 1 else if s = 4 then 2 else 3
theorem shr58 (x : UInt64) : (x >>> 58).toNat < 64 := by
  have h := x.toNat_lt
  rw [UInt64.toNat_shiftRight]
  show x.toNat >>> 58 < 64
  rw [Nat.shiftRight_eq_div_pow]; omega
def vlqX (n s : Nat) : UInt64 := UInt64.ofNat n ||| (if 8 * s - 2 < 64 then UInt64.ofNat (tzN s) <<< UInt64.ofNat (8 * s - 2) else 0)
def vlqP (n s : Nat) : Nat → List UInt8
  | 0 => []
  | i + 1 => vlqP n s i ++ [(if 8 * (s - 1 - i) < 64 then vlqX n s >>> UInt64.ofNat (8 * (s - 1 - i)) else 0).toUInt8]
def vlqL (n s : Nat) : List UInt8 := vlqP n s s
def fitN (n s : Nat) : Bool := (if 8 * s - 2 < 64 then UInt64.ofNat n >>> UInt64.ofNat (8 * s - 2) else 0) == 0
theorem fitN_is {n s : Nat} (hn : n < 9223372036854775808) (hs : s = 1 ∨ s = 2 ∨ s = 4 ∨ s = 8) : fitN n s = decide (n < 2 ^ (8 * s - 2)) := by
  unfold fitN
  rw [if_pos (by omega), Bool.eq_iff_iff, beq_iff_eq, decide_eq_true_iff]
  have e : (UInt64.ofNat n >>> UInt64.ofNat (8 * s - 2)).toNat = n / 2 ^ (8 * s - 2) := by
    rw [UInt64.toNat_shiftRight, UInt64.toNat_ofNat_of_lt' (by have : UInt64.size = 18446744073709551616 := rfl; omega), UInt64.toNat_ofNat_of_lt' (by have : UInt64.size = 18446744073709551616 := rfl; omega), Nat.mod_eq_of_lt (by omega), Nat.shiftRight_eq_div_pow]
  constructor
  · intro h
    have h1 := congrArg UInt64.toNat h
    rw [e] at h1
    have h1 : n / 2 ^ (8 * s - 2) = 0 := h1
    exact (Nat.div_eq_zero_iff_lt (Nat.two_pow_pos _)).1 h1
  · intro h
    apply UInt64.toNat_inj.1
    rw [e, Nat.div_eq_of_lt h]; rfl
def vlqS (n : Nat) : Nat := if n < 64 then 1 else if n < 16384 then 2 else if n < 1073741824 then 4 else 8
theorem tz64_calls (x : UInt64) (w : World) (hZ : TabZ w) (hx : x ≠ 0) : Ret Tryd.prog 99 #[V64 x] w fun v w' => v = I64 ((dbj64 (((x &&& -x) * 285870213051353865) >>> 58).toNat).toNat : Nat) ∧ Chg [] w w' := by
 refine Ret.enter Tryd.func99 rfl ?_
 simp only [Tryd.ntmps99, fe, Nat.reduceAdd, Nat.reduceSub]
 have hH := Hp.start [] w
 refine wp_seq_k ?_
 intro K1 hK1
 refine wrt [.p 0] ?_
 refine pka 0 ?_;simp only [nf]
 refine plan_nil hH ?_
 clear hH
 intro w2 hH
 refine hK1 _ _ ?_
 (try clear hK1 K1)
 refine wp_seq_k ?_
 intro K3 hK3
 refine wp_seq_k ?_
 intro K4 hK4
 refine wrt [.p 0, .p 1] ?_
 refine pm ?_;simp only [nf]
 refine pp rfl rfl (pr_bin rfl rfl (bin_eql_u64 _ 0)) ?_;simp only [nf]
 refine plan_nil hH ?_
 clear hH
 intro w5 hH
 refine hK4 _ _ ?_
 (try clear hK4 K4)
 refine wp_cond_false (by show BV _ = _; rw [beq_eq_false_iff_ne.mpr hx]) ?_
 refine wp_skip ?_
 refine hK3 _ _ ?_
 (try clear hK3 K3)
 refine wp_seq_k ?_
 intro K6 hK6
 refine wrt [.p 0, .p 1, .p 2, .p 3, .p 4, .p 5, .p 6, .q 7, .p 8, .p 9] ?_
 refine pm (pm ?_);simp only [nf]
 refine pp rfl rfl (pr_neg64 rfl) ?_;simp only [nf]
 refine pp rfl rfl (pr_bin rfl rfl (bin_and_u64 _ _)) ?_;simp only [nf]
 refine pp rfl rfl (pr_bin rfl rfl (bin_mul_u64 _ 285870213051353865)) ?_;simp only [nf]
 refine pp rfl rfl (pr_bin rfl rfl (bin_shrc_u64 58 58 (by decide) rfl _)) ?_;simp only [nf]
 refine pp rfl rfl (pr_idxA1 rfl rfl Tryd.underlying160 sz5 (by first | omega | (exact shr58 _))) ?_;simp only [nf]
 refine pq rfl rfl (qr_load1 rfl Tryd.underlying5 rfl ((hZ.grow hH.chg) _ (by first | omega | (exact shr58 _)))) ?_;simp only [nf]
 refine pp rfl rfl (pr_conv rfl (cnv_u8_n _ Tryd.underlying5 Tryd.underlying3)) ?_;simp only [nf]
 refine pa ?_;simp only [nf]
 refine plan_nil hH ?_
 clear hH
 intro w7 hH
 refine hK6 _ _ ?_
 (try clear hK6 K6)
 refine wp_ret ?_
 (try simp only [Exit.then, Exit.inBlock, ↓reduceIte, Nat.reduceEqDiff])
 refine BP.ret1 rfl rfl ?_
 exact ⟨rfl, hH.chg⟩
theorem tz_gen (x : UInt64) (w : World) (hZ : TabZ w) (hx : x ≠ 0) : Ret Tryd.prog 76 #[V64 x] w fun v w' => v = I64 ((dbj64 (((x &&& -x) * 285870213051353865) >>> 58).toNat).toNat : Nat) ∧ Chg [] w w' := by
 refine Ret.enter Tryd.func76 rfl ?_
 simp only [Tryd.ntmps76, fe, Nat.reduceAdd, Nat.reduceSub]
 have hH := Hp.start [] w
 refine wp_seq_k ?_
 intro K1 hK1
 refine wrt [.p 0] ?_
 refine pka 0 ?_;simp only [nf]
 refine plan_nil hH ?_
 clear hH
 intro w2 hH
 refine hK1 _ _ ?_
 (try clear hK1 K1)
 refine wp_seq_k ?_
 intro K3 hK3
 refine wp_cond_false rfl ?_
 refine wp_skip ?_
 refine hK3 _ _ ?_
 (try clear hK3 K3)
 refine wp_seq_k ?_
 intro K4 hK4
 refine wrt [.p 0, .q 1, .p 2] ?_
 refine pm ?_;simp only [nf]
 refine pq rfl rfl (qr_call cf99 (fun w' hw => tz64_calls _ w' (hZ.grow (hH.chg.trans hw)) hx) rfl) ?_;simp only [nf]
 refine pa ?_;simp only [nf]
 refine plan_nil hH ?_
 clear hH
 intro w5 hH
 refine hK4 _ _ ?_
 (try clear hK4 K4)
 refine wp_ret ?_
 (try simp only [Exit.then, Exit.inBlock, ↓reduceIte, Nat.reduceEqDiff])
 refine BP.ret1 rfl rfl ?_
 exact ⟨rfl, hH.chg⟩
theorem tz_calls (s : Nat) (w : World) (hZ : TabZ w) (hs : s = 1 ∨ s = 2 ∨ s = 4 ∨ s = 8) : Ret Tryd.prog 76 #[V64 (UInt64.ofNat s)] w fun v w' => v = I64 (tzN s : Nat) ∧ Chg [] w w' := by
  refine (tz_gen (UInt64.ofNat s) w hZ ?_).mono fun v w' h => ?_
  · rcases hs with rfl | rfl | rfl | rfl <;> decide
  · rcases hs with rfl | rfl | rfl | rfl <;> exact h
theorem fits_calls (n s : Nat) (w : World) (hn : n < 9223372036854775808) (hs : s = 1 ∨ s = 2 ∨ s = 4 ∨ s = 8) : Ret Tryd.prog 56 #[I64 n, I64 s] w fun v w' => v = BV (fitN n s) ∧ Chg [] w w' := by
 refine Ret.enter Tryd.func56 rfl ?_
 simp only [Tryd.ntmps56, fe, Nat.reduceAdd, Nat.reduceSub]
 have hH := Hp.start [] w
 refine wp_seq_k ?_
 intro K1 hK1
 refine wrt [.p 0] ?_
 refine pa ?_;simp only [nf]
 refine plan_nil hH ?_
 clear hH
 intro w2 hH
 refine hK1 _ _ ?_
 (try clear hK1 K1)
 refine wp_seq_k ?_
 intro K3 hK3
 refine wrt [.p 0, .p 1, .p 2, .p 3, .p 4, .p 5, .p 6, .p 7, .p 8, .p 9, .p 10, .p 11] ?_
 refine pm ?_;simp only [nf]
 refine pp rfl rfl (pr_bin rfl rfl (by first | exact bin_geq_n (n := 0)  | exact bin_geq_i)) ?_;simp only [nf]
 refine plan_p (v := BV true) rfl rfl (pr_move_v rfl) ?_
 (try simp only [nf])
 refine pp rfl rfl pr_move ?_;simp only [nf]
 refine pp rfl rfl (pr_conv rfl (by first | exact cnv_n_u64 Tryd.underlying3 Tryd.underlying45 | exact cnv_i_u64 Tryd.underlying3 Tryd.underlying45)) ?_;simp only [nf]
 refine pp rfl rfl pr_move ?_;simp only [nf]
 refine pp rfl rfl (pr_bin rfl rfl (by first | exact bin_mul_n (m := 8) (by omega) | exact bin_mul_i (by omega) (by omega))) ?_;simp only [nf]
 refine pp rfl rfl (pr_bin rfl rfl (by first | exact bin_sub_n (n := 2) (by omega) (by omega) | exact bin_sub_i (by omega) (by omega))) ?_;simp only [nf]
 refine pp rfl rfl (pr_bin rfl rfl (bin_shr_u64 _ _ _)) ?_;simp only [nf]
 refine pp rfl rfl (pr_bin rfl rfl (bin_eql_u64 _ 0)) ?_;simp only [nf]
 refine pp rfl rfl (pr_pick_t rfl) ?_;simp only [nf]
 refine pa ?_;simp only [nf]
 refine plan_nil hH ?_
 clear hH
 intro w4 hH
 refine hK3 _ _ ?_
 (try clear hK3 K3)
 refine wp_ret ?_
 (try simp only [Exit.then, Exit.inBlock, ↓reduceIte, Nat.reduceEqDiff])
 refine BP.ret1 rfl rfl ?_
 exact ⟨rfl, hH.chg⟩
theorem putIn_calls (n s : Nat) (w : World) (hZ : TabZ w) (hn : n < 9223372036854775808) (hs : s = 1 ∨ s = 2 ∨ s = 4 ∨ s = 8) (hf : fitN n s = true) : Ret Tryd.prog 45 #[I64 n, I64 s] w fun v w' => ∃ o cap cs, v = .tuple #[own o s cap, I64 (0 : Nat)] ∧ Chg [] w w' ∧ OwnC o s cap 1 cs ((vlqL n s).map V8) ∧ ∀ b, o = some b → w.heap.size ≤ b ∧ Blk w' b 5 cs := by
 refine Ret.enter Tryd.func45 rfl ?_
 simp only [Tryd.ntmps45, fe, Nat.reduceAdd, Nat.reduceSub]
 have hH := Hp.start [] w
 refine wp_seq_k ?_
 intro K1 hK1
 refine wrt [.p 0, .p 1] ?_
 refine pa (pka 0 ?_);simp only [nf]
 refine plan_nil hH ?_
 clear hH
 intro w2 hH
 refine hK1 _ _ ?_
 (try clear hK1 K1)
 refine wp_seq_k ?_
 intro K3 hK3
 refine wp_block ?_
 refine wp_seq_k ?_
 intro K4 hK4
 refine wrt [.p 0, .p 1, .p 2, .p 3, .p 4, .p 5, .p 6, .p 7, .p 8, .p 9, .p 10, .p 11, .p 12, .p 13] ?_
 refine pm ?_;simp only [nf]
 refine pp rfl rfl (pr_bin rfl rfl (by first | exact bin_lss_n (n := 1)  | exact bin_lss_i)) ?_;simp only [nf]
 refine pm ?_;simp only [nf]
 refine plan_pc_f rfl rfl rfl (fun hb => by have hb' := hb; (try simp only [gsl] at hb'); rw [hb]; exact pr_move) ?_
 (try simp only [nf])
 refine plan_pc_f rfl rfl rfl (fun hb => by have hb' := hb; (try simp only [gsl] at hb'); rw [hb]; exact (pr_bin rfl rfl (by first | exact bin_gtr_n (n := 8)  | exact bin_gtr_i))) ?_
 (try simp only [nf])
 refine pp rfl rfl (pr_pick_or rfl rfl rfl) ?_;simp only [nf]
 refine pm ?_;simp only [nf]
 refine plan_pc_f rfl rfl rfl (fun hb => by have hb' := hb; (try simp only [gsl] at hb'); rw [hb]; exact pr_move) ?_
 (try simp only [nf])
 refine plan_pc_f rfl rfl rfl (fun hb => by have hb' := hb; (try simp only [gsl] at hb'); rw [hb]; exact pr_move) ?_
 (try simp only [nf])
 refine plan_pc_f rfl rfl rfl (fun hb => by have hb' := hb; (try simp only [gsl] at hb'); rw [hb]; exact (pr_bin rfl rfl (by first | exact bin_sub_n (n := 1) (by omega) (by omega) | exact bin_sub_i (by omega) (by omega)))) ?_
 (try simp only [nf])
 refine plan_pc_f rfl rfl rfl (fun hb => by have hb' := hb; (try simp only [gsl] at hb'); rw [hb]; exact (pr_bin rfl rfl (by first | exact bin_and_n (by omega) (by omega)))) ?_
 (try simp only [nf])
 refine plan_pc_f rfl rfl rfl (fun hb => by have hb' := hb; (try simp only [gsl] at hb'); rw [hb]; exact (pr_bin rfl rfl (by first | exact bin_neq_n (n := 0)  | exact bin_neq_i))) ?_
 (try simp only [nf])
 refine pp rfl rfl (pr_pick_or rfl rfl rfl) ?_;simp only [nf]
 refine pa ?_;simp only [nf]
 refine plan_nil hH ?_
 clear hH
 intro w5 hH
 refine hK4 _ _ ?_
 (try clear hK4 K4)
 refine wp_cond_false (by rcases hs with rfl | rfl | rfl | rfl <;> rfl) ?_
 refine wp_seq_k ?_
 intro K6 hK6
 refine wrt [.p 0, .p 1, .q 2, .p 3, .p 4] ?_
 refine pm (pm ?_);simp only [nf]
 refine pq rfl rfl (qr_call cf56 (fun w' hw => fits_calls _ _ w' hn (by first | exact hs | omega)) rfl) ?_;simp only [nf]
 refine pp rfl rfl (pr_not rfl) ?_;simp only [nf]
 refine pa ?_;simp only [nf]
 refine plan_nil hH ?_
 clear hH
 intro w7 hH
 refine hK6 _ _ ?_
 (try clear hK6 K6)
 refine wp_cond_false (by show BV (!fitN n s) = _; rw [hf]; rfl) ?_
 refine wp_skip ?_
 refine hK3 _ _ ?_
 (try clear hK3 K3)
 refine wp_seq_k ?_
 intro K8 hK8
 refine wrt [.p 0, .p 1, .p 2, .p 3, .q 4, .p 5, .p 6, .p 7, .p 8, .p 9, .p 10, .p 11] ?_
 refine pm ?_;simp only [nf]
 refine pp rfl rfl (pr_conv rfl (by first | exact cnv_n_u64 Tryd.underlying3 Tryd.underlying45 | exact cnv_i_u64 Tryd.underlying3 Tryd.underlying45)) ?_;simp only [nf]
 refine pm ?_;simp only [nf]
 refine pp rfl rfl (pr_conv rfl (by first | exact cnv_n_u64 Tryd.underlying3 Tryd.underlying75 | exact cnv_i_u64 Tryd.underlying3 Tryd.underlying75)) ?_;simp only [nf]
 refine pq rfl rfl (qr_call cf76 (fun w' hw => tz_calls _ w' (hZ.grow (hH.chg.trans hw)) hs) rfl) ?_;simp only [nf]
 refine pp rfl rfl (pr_conv rfl (by first | exact cnv_n_u64 Tryd.underlying3 Tryd.underlying45 | exact cnv_i_u64 Tryd.underlying3 Tryd.underlying45)) ?_;simp only [nf]
 refine pm ?_;simp only [nf]
 refine pp rfl rfl (pr_bin rfl rfl (by first | exact bin_mul_n (m := 8) (by omega) | exact bin_mul_i (by omega) (by omega))) ?_;simp only [nf]
 refine pp rfl rfl (pr_bin rfl rfl (by first | exact bin_sub_n (n := 2) (by omega) (by omega) | exact bin_sub_i (by omega) (by omega))) ?_;simp only [nf]
 refine pp rfl rfl (pr_bin rfl rfl (bin_shl_u64 _ _ _)) ?_;simp only [nf]
 refine pp rfl rfl (pr_bin rfl rfl (bin_or_u64 _ _)) ?_;simp only [nf]
 refine pa ?_;simp only [nf]
 refine plan_nil hH ?_
 clear hH
 intro w9 hH
 refine hK8 _ _ ?_
 (try clear hK8 K8)
 refine wp_seq_k ?_
 intro K10 hK10
 refine wrt [.p 0] ?_
 refine pa ?_;simp only [nf]
 refine plan_nil hH ?_
 clear hH
 intro w11 hH
 refine hK10 _ _ ?_
 (try clear hK10 K10)
 refine wp_seq_k ?_
 intro K12 hK12
 refine wp_seq_k ?_
 intro K13 hK13
 refine wrt [.p 0, .p 1, .p 2, .p 3] ?_
 refine pm ?_;simp only [nf]
 refine pp rfl rfl (pr_bin rfl rfl (by first | exact bin_sub_n (n := 1) (by omega) (by omega) | exact bin_sub_i (by omega) (by omega))) ?_;simp only [nf]
 refine pp rfl rfl (pr_bin rfl rfl (by first | exact bin_mul_n (m := 8) (by omega) | exact bin_mul_i (by omega) (by omega))) ?_;simp only [nf]
 refine pa ?_;simp only [nf]
 refine plan_nil hH ?_
 clear hH
 intro w14 hH
 rw [show ((8 * (s - 1) : Nat) : Int) = 8 * (s : Int) - 8 by omega]
 refine hK13 _ _ ?_
 (try clear hK13 K13)
 refine wp_block ?_
 refine wp_loopT [7, 8] [42, 43, 44, 45, 46, 47, 48, 49, 50, 51, 52] (fun (n15 : Nat) (vs : List Value) (w' : World) => ∃ (m k : Nat) (o : Option Nat) (c : Nat) (cs : Array Value), vs = [own o k c, I64 (8 * (m : Int) - 8)] ∧ Hp [] w w' [(o, 5, cs)] ∧ n15 = m ∧ k + m = s ∧ OwnC o k c 1 cs ((vlqP n s k).map V8)) (s) (by kernel_rfl) ?_ ?_
 ·
  simp only [ga]
  refine ⟨s, 0, none, 0, #[], rfl, ?_, rfl, ?_, ?_⟩
  ·
   exact hH.nil _
  · first | omega | (omega)
  · first | omega | (exact OwnC.start 1)
 clear hH
 intro n15 vs16 w17 hR18 d0
 obtain ⟨m, k, o, c, cs, rfl, hH, hn19, hf20, hO⟩ := hR18
 simp only [putAll, putD, List.set_cons_zero, List.set_cons_succ, Nat.zero_add, Nat.reduceAdd]
 refine wp_seq_k ?_
 intro K21 hK21
 refine wp_seq_k ?_
 intro K22 hK22
 refine wrt [.p 0, .p 1] ?_
 refine pm ?_;simp only [nf]
 refine pp rfl rfl (pr_bin rfl rfl (by first | exact bin_geq_n (n := 0)  | exact bin_geq_i)) ?_;simp only [nf]
 refine plan_nil hH ?_
 clear hH
 intro w23 hH
 refine hK22 _ _ ?_
 (try clear hK22 K22)
 refine wp_cond_split rfl (fun hc24 => ?_) (fun hc24 => ?_)
 ·
  (try simp only [cnd, gsl] at hc24)
  obtain ⟨i, rfl⟩ : ∃ i, m = i + 1 := ⟨m - 1, by omega⟩
  rw [show (8 * ((i + 1 : Nat) : Int) - 8) = ((8 * i : Nat) : Int) by omega]
  have e2 : s - 1 - k = i := by omega
  refine wp_skip ?_
  refine hK21 _ _ ?_
  (try clear hK21 K21)
  refine wp_seq_k ?_
  intro K25 hK25
  refine wp_block ?_
  refine wrt [.p 0, .p 1, .p 2, .p 3, .p 4, .x 5, .e 6, .p 7] ?_
  refine pm (pm (pm ?_));simp only [nf]
  refine pp rfl rfl (pr_bin rfl rfl (bin_shr_u64 _ _ _)) ?_;simp only [nf]
  refine pp rfl rfl (pr_conv rfl (cnv_u64_u8 _ Tryd.underlying45 Tryd.underlying5)) ?_;simp only [nf]
  refine plan_buildSlice rfl rfl hH Tryd.underlying29 (by rfl) (bs1 _) ?_
  clear hH
  intro b26 w27 hH
  (try simp only [nf, nh, Value.cells, arrB_set] at hH ⊢)
  refine plan_append 0 rfl rfl hH rfl hO (fun w' hH => ((OwnC.sl hH 1 rfl (OwnC.of_bytes rfl))).src) rfl rfl Tryd.underlying29 Tryd.underlying29 (.inl ⟨_, rfl⟩) sz5 bz5 ze5 rfl (by first | omega | (simp <;> omega)) (by first | omega | (simp <;> omega)) ?_
  clear hH
  intro o28 cap29 cs30 w31 hO32 hH
  (try simp only [nf] at hH ⊢)
  (try simp only [nf, nh, Value.cells, arrB_set] at hH ⊢)
  try rw [← List.map_append] at hO32
  (try simp only [Nat.zero_add, List.nil_append, List.length_nil] at hO32 ⊢)
  refine pa ?_;simp only [nf]
  refine plan_nil hH ?_
  clear hH
  intro w33 hH
  refine hK25 _ _ ?_
  (try clear hK25 K25)
  refine wrt [.p 0, .p 1, .p 2] ?_
  refine pm ?_;simp only [nf]
  refine pp rfl rfl (pr_bin rfl rfl (by first | exact bin_sub_n (n := 8) (by omega) (by omega) | exact bin_sub_i (by omega) (by omega))) ?_;simp only [nf]
  refine pa ?_;simp only [nf]
  refine plan_nil hH ?_
  clear hH
  intro w34 hH
  (try simp only [Exit.then, Exit.inBlock, ↓reduceIte, Nat.reduceEqDiff])
  rw [show (((8 * i : Nat) : Int) - 8) = 8 * (i : Int) - 8 by omega]
  refine ⟨i, ?_, _, rfl, by kernel_rfl, ?_⟩
  · first | omega | (omega)
  simp only [ga]
  refine ⟨i, k + 1, o28, cap29, cs30, rfl, ?_, rfl, ?_, ?_⟩
  ·
   exact hH.take 1
  · first | omega | (omega)
  · first | omega | (rw [vlqP, e2]; exact hO32)
 ·
  (try simp only [cnd, gsl] at hc24)
  refine wp_exit ?_
  (try simp only [Exit.then, Exit.inBlock, ↓reduceIte, Nat.reduceEqDiff])
  refine hK12 _ _ ?_
  (try clear hK12 K12)
  refine wp_seq_k ?_
  intro K35 hK35
  refine wrt [.p 0, .p 1, .p 2] ?_
  refine pm (pa (pka 0 ?_));simp only [nf]
  refine plan_nil hH ?_
  clear hH
  intro w36 hH
  refine hK35 _ _ ?_
  (try clear hK35 K35)
  refine wp_ret ?_
  (try simp only [Exit.then, Exit.inBlock, ↓reduceIte, Nat.reduceEqDiff])
  refine BP.ret2 rfl rfl rfl ?_
  obtain rfl : m = 0 := by omega
  obtain rfl : k = s := by omega
  exact ⟨_, _, _, rfl, hH.chg, hO, hH.owned 0 rfl⟩
theorem vlqS_fit {n s : Nat} (h : s = 1 ∨ s = 2 ∧ 64 ≤ n ∨ s = 4 ∧ 16384 ≤ n ∨ s = 8 ∧ 1073741824 ≤ n) (hn : n < 4611686018427387904) (hf : fitN n s = true) : vlqS n = s := by
  rw [fitN_is (by omega) (by omega)] at hf
  have hf := of_decide_eq_true hf
  unfold vlqS
  rcases h with rfl | ⟨rfl, h⟩ | ⟨rfl, h⟩ | ⟨rfl, h⟩
  · have hf : n < 64 := hf
    rw [if_pos hf]
  · have hf : n < 16384 := hf
    rw [if_neg (by omega), if_pos hf]
  · have hf : n < 1073741824 := hf
    rw [if_neg (by omega), if_neg (by omega), if_pos hf]
  · rw [if_neg (by omega), if_neg (by omega), if_neg (by omega)]
theorem vlqS_no {n s : Nat} (h : s = 1 ∨ s = 2 ∧ 64 ≤ n ∨ s = 4 ∧ 16384 ≤ n ∨ s = 8 ∧ 1073741824 ≤ n) (hn : n < 4611686018427387904) (hf : fitN n s = false) : s * 2 = 1 ∨ s * 2 = 2 ∧ 64 ≤ n ∨ s * 2 = 4 ∧ 16384 ≤ n ∨ s * 2 = 8 ∧ 1073741824 ≤ n := by
  rw [fitN_is (by omega) (by omega)] at hf
  have hf := of_decide_eq_false hf
  rcases h with rfl | ⟨rfl, h⟩ | ⟨rfl, h⟩ | ⟨rfl, h⟩
  · have hf : ¬ n < 64 := hf
    omega
  · have hf : ¬ n < 16384 := hf
    omega
  · have hf : ¬ n < 1073741824 := hf
    omega
  · have hf : ¬ n < 4611686018427387904 := hf
    omega
theorem put_calls (n : Nat) (w : World) (hZ : TabZ w) (hn2 : n < 4611686018427387904) : Ret Tryd.prog 21 #[I64 n] w fun v w' => ∃ o cap cs, v = .tuple #[own o (vlqS n) cap, I64 (0 : Nat)] ∧ Chg [] w w' ∧ OwnC o (vlqS n) cap 1 cs ((vlqL n (vlqS n)).map V8) ∧ ∀ b, o = some b → w.heap.size ≤ b ∧ Blk w' b 5 cs := by
 have hn : n < 9223372036854775808 := by omega
 refine Ret.enter Tryd.func21 rfl ?_
 simp only [Tryd.ntmps21, fe, Nat.reduceAdd, Nat.reduceSub]
 have hH := Hp.start [] w
 refine wp_seq_k ?_
 intro K1 hK1
 refine wrt [.p 0, .p 1] ?_
 refine pa (pka 0 ?_);simp only [nf]
 refine plan_nil hH ?_
 clear hH
 intro w2 hH
 refine hK1 _ _ ?_
 (try clear hK1 K1)
 refine wp_seq_k ?_
 intro K3 hK3
 refine wp_seq_k ?_
 intro K4 hK4
 refine wrt [.p 0] ?_
 refine pka 1 ?_;simp only [nf]
 refine plan_nil hH ?_
 clear hH
 intro w5 hH
 refine hK4 _ _ ?_
 (try clear hK4 K4)
 refine wp_block ?_
 refine wp_loopT [4] [2, 3, 5, 6, 7, 8, 9, 10, 11, 12, 13, 14, 15, 16] (fun (n6 : Nat) (vs : List Value) (w' : World) => ∃ (s : Nat), vs = [I64 (s : Nat)] ∧ Hp [] w w' [] ∧ n6 = 16 - s ∧ (s = 1 ∨ s = 2 ∧ 64 ≤ n ∨ s = 4 ∧ 16384 ≤ n ∨ s = 8 ∧ 1073741824 ≤ n)) (16 - 1) (by kernel_rfl) ?_ ?_
 ·
  simp only [ga]
  refine ⟨1, rfl, ?_, rfl, ?_⟩
  ·
   exact hH
  · first | omega | (exact .inl rfl)
 clear hH
 intro n6 vs7 w8 hR9 d0
 obtain ⟨s, rfl, hH, hn10, hsf⟩ := hR9
 simp only [putAll, putD, List.set_cons_zero, List.set_cons_succ, Nat.zero_add, Nat.reduceAdd]
 have hs : s = 1 ∨ s = 2 ∨ s = 4 ∨ s = 8 := by omega
 refine wp_seq_k ?_
 intro K11 hK11
 refine wp_seq_k ?_
 intro K12 hK12
 refine wrt [.p 0, .p 1] ?_
 refine pm ?_;simp only [nf]
 refine pp rfl rfl (pr_bin rfl rfl (by first | exact bin_leq_n (n := 8)  | exact bin_leq_i)) ?_;simp only [nf]
 refine plan_nil hH ?_
 clear hH
 intro w13 hH
 refine hK12 _ _ ?_
 (try clear hK12 K12)
 refine wp_cond_true (by show BV _ = _; rw [decide_eq_true (by omega)]) ?_
 refine wp_skip ?_
 refine hK11 _ _ ?_
 (try clear hK11 K11)
 refine wp_seq_k ?_
 intro K14 hK14
 refine wp_block ?_
 refine wp_seq_k ?_
 intro K15 hK15
 refine wrt [.p 0, .p 1, .q 2] ?_
 refine pm (pm ?_);simp only [nf]
 refine pq rfl rfl (qr_call cf56 (fun w' hw => fits_calls _ _ w' hn (by first | exact hs | omega)) rfl) ?_;simp only [nf]
 refine plan_nil hH ?_
 clear hH
 intro w16 hH
 refine hK15 _ _ ?_
 (try clear hK15 K15)
 refine wp_cond_split rfl (fun hc17 => ?_) (fun hc17 => ?_)
 ·
  (try simp only [cnd] at hc17)
  have hf := hc17
  have hv := vlqS_fit hsf hn2 hf
  refine wp_seq_k ?_
  intro K18 hK18
  refine wrt [.p 0, .p 1, .x 2, .p 3, .p 4, .p 5, .p 6] ?_
  refine pm (pm ?_);simp only [nf]
  refine plan_callx rfl rfl hH cf45 (fun w' hH => putIn_calls _ _ w' (hZ.grow hH.chg) hn hs hf) rfl (fun _ _ _ h => by obtain ⟨_, _, _, _, hg, _⟩ := h; exact hg) ?_
  clear hH
  intro w19 v20 w21 hH hp22
  obtain ⟨o23, cap24, cs25, rfl, hg, hO26, hfr⟩ := hp22
  replace hH := hH.callown hg hfr
  clear hg hfr
  (try simp only [nf, nh, Value.cells, arrB_set] at hH ⊢)
  (try simp only [nf])
  refine pp rfl rfl (pr_extract rfl rfl) ?_;simp only [nf]
  refine pp rfl rfl (pr_extract rfl rfl) ?_;simp only [nf]
  refine pa (pa ?_);simp only [nf]
  refine plan_nil hH ?_
  clear hH
  intro w27 hH
  refine hK18 _ _ ?_
  (try clear hK18 K18)
  refine wp_ret ?_
  (try simp only [Exit.then, Exit.inBlock, ↓reduceIte, Nat.reduceEqDiff])
  refine BP.ret2 rfl rfl rfl ?_
  rw [hv]
  exact ⟨_, _, _, rfl, hH.chg, (by assumption), hH.owned 0 rfl⟩
 ·
  (try simp only [cnd] at hc17)
  have hno := vlqS_no hsf hn2 hc17
  refine wp_skip ?_
  refine hK14 _ _ ?_
  (try clear hK14 K14)
  refine wrt [.p 0, .p 1, .p 2] ?_
  refine pm ?_;simp only [nf]
  refine pp rfl rfl (pr_bin rfl rfl (by first | exact bin_mul_n (n := 2) (by omega) | exact bin_mul_i (by omega) (by omega))) ?_;simp only [nf]
  refine pa ?_;simp only [nf]
  refine plan_nil hH ?_
  clear hH
  intro w28 hH
  (try simp only [Exit.then, Exit.inBlock, ↓reduceIte, Nat.reduceEqDiff])
  refine ⟨16 - s * 2, ?_, _, rfl, by kernel_rfl, ?_⟩
  · first | omega | (omega)
  simp only [ga]
  refine ⟨s * 2, rfl, ?_, rfl, ?_⟩
  ·
   exact hH
  · first | omega | (exact hno)
end Go.Proofs.YtdkjdioccpoacaaDoor
set_option linter.unusedSimpArgs false
set_option linter.unusedVariables false
set_option maxRecDepth 100000
set_option maxHeartbeats 4000000
namespace Go.Proofs.YtdkjdioccpoacaaDoor
open Go
open List (getD_cons_zero getD_cons_succ set_cons_zero set_cons_succ)
abbrev P2 := UInt64 × UInt64
abbrev PV (p : P2) : Value := .agg #[V64 p.1, V64 p.2]
def wordF (f : Nat → UInt8) : Nat → UInt64
  | 0 => 0
  | n + 1 => wordF f n <<< 8 ||| (f n).toUInt64
def ofP (f : Nat → UInt8) : P2 := (wordF f 8, wordF (fun i => f (8 + i)) 8)
def byteW (x : UInt64) (i : Nat) : UInt8 := (if 56 - 8 * i < 64 then x >>> UInt64.ofNat (56 - 8 * i) else 0).toUInt8
def nbP (p : P2) (j : Nat) : UInt8 := if j < 8 then byteW p.1 j else byteW p.2 (j - 8)
def mskW (a : P2) (i : Nat) : UInt64 := -((if 63 - i % 64 < 64 then (if 64 ≤ i then a.2 else a.1) >>> UInt64.ofNat (63 - i % 64) else 0) &&& 1)
def bW (b : P2) : Nat → P2
  | 0 => b
  | n + 1 => ((bW b n).1 >>> 1 ^^^ (-((bW b n).2 &&& 1)) &&& 16212958658533785600, (bW b n).2 >>> 1 ||| (bW b n).1 <<< 63)
def zW (a b : P2) : Nat → P2
  | 0 => (0, 0)
  | n + 1 => ((zW a b n).1 ^^^ (bW b n).1 &&& mskW a n, (zW a b n).2 ^^^ (bW b n).2 &&& mskW a n)
def mulP (a b : P2) : P2 := zW a b 128
def blkP (l : List UInt8) (n : Nat) : P2 := ofP fun i => l.getD (16 * n + i) 0
def takeP (h r : P2) (l : List UInt8) : Nat → P2
  | 0 => r
  | n + 1 => mulP ((takeP h r l n).1 ^^^ (blkP l n).1, (takeP h r l n).2 ^^^ (blkP l n).2) h
def blocks (l : List UInt8) : Nat := (l.length + 15) / 16
theorem wordF_list (l : List UInt8) (h : 8 ≤ l.length) : wordF (fun i => (l.take 8).getD i 0) 8 = wordF (fun i => l.getD i 0) 8 := by
  simp only [wordF]
  rw [take_getD l (by omega), take_getD l (by omega), take_getD l (by omega), take_getD l (by omega), take_getD l (by omega), take_getD l (by omega), take_getD l (by omega), take_getD l (by omega)]
theorem nb_step (p : P2) (i j : Nat) (hi : i < 8) (hj : j < 16) :
    upd (upd (fun j => if j < i ∨ 8 ≤ j ∧ j < 8 + i then nbP p j else 0) i (byteW p.1 i)) (8 + i) (byteW p.2 i) j = if j < i + 1 ∨ 8 ≤ j ∧ j < 8 + (i + 1) then nbP p j else 0 := by
  simp only [upd]
  by_cases h1 : j = 8 + i
  · subst h1
    rw [if_pos rfl, if_pos (by omega)]
    unfold nbP
    rw [if_neg (by omega), Nat.add_sub_cancel_left]
  · rw [if_neg h1]
    by_cases h2 : j = i
    · subst h2
      rw [if_pos rfl, if_pos (by omega)]
      unfold nbP
      rw [if_pos hi]
    · rw [if_neg h2]
      by_cases h3 : j < i ∨ 8 ≤ j ∧ j < 8 + i
      · rw [if_pos h3, if_pos (by omega)]
      · rw [if_neg h3, if_neg (by omega)]
theorem word_calls (v : Value) (l : List UInt8) (w : World) (hv : Sl w v l) (h8 : 8 ≤ l.length) : Ret Tryd.prog 91 #[v] w fun v' w' => v' = V64 (wordF (fun i => l.getD i 0) 8) ∧ Chg [] w w' := by
 refine Ret.enter Tryd.func91 rfl ?_
 simp only [Tryd.ntmps91, fe, Nat.reduceAdd, Nat.reduceSub]
 have hH := Hp.start [] w
 refine wp_seq_k ?_
 intro K1 hK1
 refine wrt [.p 0] ?_
 refine pa ?_;simp only [nf]
 refine plan_nil hH ?_
 clear hH
 intro w2 hH
 refine hK1 _ _ ?_
 (try clear hK1 K1)
 refine wp_seq_k ?_
 intro K3 hK3
 refine wrt [.p 0] ?_
 refine pa ?_;simp only [nf]
 refine plan_nil hH ?_
 clear hH
 intro w4 hH
 refine hK3 _ _ ?_
 (try clear hK3 K3)
 refine wp_seq_k ?_
 intro K5 hK5
 refine wp_seq_k ?_
 intro K6 hK6
 refine wrt [.p 0, .p 1, .p 2, .p 3] ?_
 refine pm ?_;simp only [nf]
 refine pp rfl rfl (pr_slice_Sl_h (hi := 8) (hv.chg hH.chg) rfl rfl Tryd.underlying29 sz5 (by first | omega | (simp <;> omega))) ?_;simp only [nf]
 refine pp rfl rfl (pr_len_Sl (Sl.cuth (hv.chg hH.chg) (by first | omega | (simp <;> omega))) rfl Tryd.underlying29) ?_;simp only [nf]
 refine pk 0 ?_;simp only [nf]
 refine plan_nil hH ?_
 clear hH
 intro w7 hH
 refine hK6 _ _ ?_
 (try clear hK6 K6)
 refine wp_block ?_
 refine wp_loopT [3, 9] [5, 10, 11, 12, 13, 14, 15, 16, 17, 18] (fun (n8 : Nat) (vs : List Value) (w' : World) => ∃ (i : Nat), vs = [V64 (wordF (fun i => (l.take 8).getD i 0) i), I64 (i : Nat)] ∧ Hp [] w w' [] ∧ n8 = 8 - i ∧ i ≤ 8) (8 - 0) (by kernel_rfl) ?_ ?_
 ·
  simp only [ga]
  refine ⟨0, rfl, ?_, rfl, ?_⟩
  ·
   exact hH
  · first | omega | (omega)
 clear hH
 intro n8 vs9 w10 hR11 d0
 obtain ⟨i, rfl, hH, hn12, hf13⟩ := hR11
 simp only [putAll, putD, List.set_cons_zero, List.set_cons_succ, Nat.zero_add, Nat.reduceAdd]
 refine wp_seq_k ?_
 intro K14 hK14
 refine wrt [.p 0] ?_
 refine pp rfl rfl (pr_bin rfl rfl (by first | exact bin_lss_n  | exact bin_lss_i)) ?_;simp only [nf]
 refine plan_nil hH ?_
 clear hH
 intro w15 hH
 refine hK14 _ _ ?_
 (try clear hK14 K14)
 refine wp_seq_k ?_
 intro K16 hK16
 refine wp_cond_split rfl (fun hc17 => ?_) (fun hc17 => ?_)
 ·
  (try simp only [cnd] at hc17)
  simp only [List.length_take] at hc17
  refine wp_skip ?_
  refine hK16 _ _ ?_
  (try clear hK16 K16)
  refine wp_seq_k ?_
  intro K18 hK18
  refine wp_block ?_
  refine wp_seq_k ?_
  intro K19 hK19
  refine wrt [.p 0, .q 1, .p 2] ?_
  refine pp rfl rfl (pr_idx_Sl (Sl.cuth (hv.chg hH.chg) (by omega)) rfl rfl Tryd.underlying29 sz5 (by first | omega | (simp <;> omega))) ?_;simp only [nf]
  refine pq rfl rfl (qr_load1 rfl Tryd.underlying5 rfl (Sl.cell (Sl.cuth (hv.chg hH.chg) (by omega)) (by first | omega | (simp <;> omega)))) ?_;simp only [nf]
  refine pa ?_;simp only [nf]
  refine plan_nil hH ?_
  clear hH
  intro w20 hH
  refine hK19 _ _ ?_
  (try clear hK19 K19)
  refine wrt [.p 0, .p 1, .p 2, .p 3, .p 4, .p 5] ?_
  refine pm ?_;simp only [nf]
  refine pp rfl rfl (pr_bin rfl rfl (bin_shlc_u64 8 8 (by decide) rfl _)) ?_;simp only [nf]
  refine pm ?_;simp only [nf]
  refine pp rfl rfl (pr_conv rfl (cnv_u8_u64 _ Tryd.underlying5 Tryd.underlying45)) ?_;simp only [nf]
  refine pp rfl rfl (pr_bin rfl rfl (bin_or_u64 _ _)) ?_;simp only [nf]
  refine pa ?_;simp only [nf]
  refine plan_nil hH ?_
  clear hH
  intro w21 hH
  refine hK18 _ _ ?_
  (try clear hK18 K18)
  refine wrt [.p 0, .p 1] ?_
  refine pp rfl rfl (pr_bin rfl rfl (by first | exact bin_add_n (n := 1) (by first | omega | (simp <;> omega)) | exact bin_add_i (by first | omega | (simp <;> omega)) (by first | omega | (simp <;> omega)))) ?_;simp only [nf]
  refine pm ?_;simp only [nf]
  refine plan_nil hH ?_
  clear hH
  intro w22 hH
  (try simp only [Exit.then, Exit.inBlock, ↓reduceIte, Nat.reduceEqDiff])
  refine ⟨8 - (i + 1), ?_, _, rfl, by kernel_rfl, ?_⟩
  · first | omega | (omega)
  simp only [ga]
  refine ⟨i + 1, rfl, ?_, rfl, ?_⟩
  ·
   exact hH
  · first | omega | (omega)
 ·
  (try simp only [cnd] at hc17)
  simp only [List.length_take] at hc17
  refine wp_exit ?_
  (try simp only [Exit.then, Exit.inBlock, ↓reduceIte, Nat.reduceEqDiff])
  refine hK5 _ _ ?_
  (try clear hK5 K5)
  refine wp_seq_k ?_
  intro K23 hK23
  refine wrt [.p 0, .p 1] ?_
  refine pm (pa ?_);simp only [nf]
  refine plan_nil hH ?_
  clear hH
  intro w24 hH
  refine hK23 _ _ ?_
  (try clear hK23 K23)
  refine wp_ret ?_
  (try simp only [Exit.then, Exit.inBlock, ↓reduceIte, Nat.reduceEqDiff])
  refine BP.ret1 rfl rfl ?_
  obtain rfl : i = 8 := by omega
  exact ⟨congrArg V64 (wordF_list l h8), hH.chg⟩
theorem bytes_calls (p : P2) (w : World) : Ret Tryd.prog 94 #[PV p] w fun v w' => v = .agg (arr8 16 (nbP p)) ∧ Chg [] w w' := by
 refine Ret.enter Tryd.func94 rfl ?_
 simp only [Tryd.ntmps94, fe, Nat.reduceAdd, Nat.reduceSub]
 have hH := Hp.start [] w
 refine wp_seq_k ?_
 intro K1 hK1
 refine wrt [.x 0, .x 1] ?_
 refine plan_box rfl rfl hH rfl ?_
 clear hH
 intro b2 w3 hH
 (try simp only [nf, nh, Value.cells, arrB_set] at hH ⊢)
 refine plan_alloc rfl rfl hH zc130 ?_
 clear hH
 intro b4 w5 hH
 (try simp only [nf, nh, Value.cells, arrB_set] at hH ⊢)
 refine plan_nil hH ?_
 clear hH
 intro w6 hH
 refine hK1 _ _ ?_
 (try clear hK1 K1)
 refine wp_seq_k ?_
 intro K7 hK7
 refine wrt [.x 0] ?_
 refine plan_alloc rfl rfl hH zc130 ?_
 clear hH
 intro b8 w9 hH
 (try simp only [nf, nh, Value.cells, arrB_set] at hH ⊢)
 refine plan_nil hH ?_
 clear hH
 intro w10 hH
 refine hK7 _ _ ?_
 (try clear hK7 K7)
 refine wp_seq_k ?_
 intro K11 hK11
 refine wp_seq_k ?_
 intro K12 hK12
 refine wrt [.p 0] ?_
 refine pk 0 ?_;simp only [nf]
 refine plan_nil hH ?_
 clear hH
 intro w13 hH
 refine hK12 _ _ ?_
 (try clear hK12 K12)
 refine wp_block ?_
 refine wp_loopT [5] [4, 6, 7, 8, 9, 10, 11, 12, 13, 14, 15, 16, 17, 18, 19, 20, 21, 22, 23, 24, 25, 26, 27] (fun (n14 : Nat) (vs : List Value) (w' : World) => ∃ (i : Nat), vs = [I64 (i : Nat)] ∧ Hp [] w w' [(some b2, 128, #[V64 p.1, V64 p.2]), (some b4, 130, arr8 16 fun _ => 0), (some b8, 130, arr8 16 fun j => if j < i ∨ 8 ≤ j ∧ j < 8 + i then nbP p j else 0)] ∧ n14 = 8 - i ∧ i ≤ 8) (8 - 0) (by kernel_rfl) ?_ ?_
 ·
  simp only [ga]
  refine ⟨0, rfl, ?_, rfl, ?_⟩
  ·
   exact hH.say 2 rfl (arr8_congr fun j hj => by rw [if_neg (by omega)])
  · first | omega | (omega)
 clear hH
 intro n14 vs15 w16 hR17 d0
 obtain ⟨i, rfl, hH, hn18, hf19⟩ := hR17
 simp only [putAll, putD, List.set_cons_zero, List.set_cons_succ, Nat.zero_add, Nat.reduceAdd]
 refine wp_seq_k ?_
 intro K20 hK20
 refine wrt [.p 0] ?_
 refine pp rfl rfl (pr_bin rfl rfl (by first | exact bin_lss_n (n := 8)  | exact bin_lss_i)) ?_;simp only [nf]
 refine plan_nil hH ?_
 clear hH
 intro w21 hH
 refine hK20 _ _ ?_
 (try clear hK20 K20)
 refine wp_seq_k ?_
 intro K22 hK22
 refine wp_cond_split rfl (fun hc23 => ?_) (fun hc23 => ?_)
 ·
  (try simp only [cnd] at hc23)
  refine wp_skip ?_
  refine hK22 _ _ ?_
  (try clear hK22 K22)
  refine wp_seq_k ?_
  intro K24 hK24
  refine wp_block ?_
  refine wp_seq_k ?_
  intro K25 hK25
  refine wrt [.p 0, .p 1] ?_
  refine pm (pa ?_);simp only [nf]
  refine plan_nil hH ?_
  clear hH
  intro w26 hH
  refine hK25 _ _ ?_
  (try clear hK25 K25)
  refine wp_region_planR (Chg [b8]) (Far.chg _) [.p 0, .p 1, .p 2, .p 3, .p 5, .p 6, .p 7, .p 10, .p 12, .p 13, .p 14, .r 4 (Chg [b8]), .p 8, .p 9, .p 17, .r 11 (Chg [b8]), .p 15, .p 16, .s 18 (Chg [b8]), .p 19, .s 20 (Chg [b8])] (by simp [AllR]) (by kernel_rfl) (by kernel_rfl) (by kernel_rfl) (by kernel_rfl) (fun _ _ _ _ _ h => by first | exact h | exact BP.panic _ _ _ _ _ h) ?_
  refine pm (pm ?_);simp only [nf]
  refine pp rfl rfl (pr_bin rfl rfl (by first | exact bin_add_n (m := 8) (by omega) | exact bin_add_i (by omega) (by omega))) ?_;simp only [nf]
  refine pp rfl rfl (pr_fieldAddr 0 rfl Tryd.underlying128 rfl rfl sz45) ?_;simp only [nf]
  refine pm ?_;simp only [nf]
  refine pp rfl rfl (pr_bin rfl rfl (by first | exact bin_mul_n (m := 8) (by omega) | exact bin_mul_i (by omega) (by omega))) ?_;simp only [nf]
  refine pp rfl rfl (pr_bin rfl rfl (by first | exact bin_sub_n (m := 56) (by omega) (by omega) | exact bin_sub_i (by omega) (by omega))) ?_;simp only [nf]
  refine pp rfl rfl (pr_fieldAddr 1 rfl Tryd.underlying128 rfl rfl sz45) ?_;simp only [nf]
  refine pm ?_;simp only [nf]
  refine pp rfl rfl (pr_bin rfl rfl (by first | exact bin_mul_n (m := 8) (by omega) | exact bin_mul_i (by omega) (by omega))) ?_;simp only [nf]
  refine pp rfl rfl (pr_bin rfl rfl (by first | exact bin_sub_n (m := 56) (by omega) (by omega) | exact bin_sub_i (by omega) (by omega))) ?_;simp only [nf]
  refine plan_r rfl rfl (rr_load1 (fun w' hw => hH.far 0 rfl hw (by simp only [List.mem_cons, List.not_mem_nil, or_false, not_or]; exact hH.other (i := 2) rfl (j := 0) rfl (by decide) rfl)) rfl Tryd.underlying45 rfl rfl) ?_
  (try simp only [nf])
  refine pp rfl rfl (pr_bin rfl rfl (bin_shr_u64 _ _ _)) ?_;simp only [nf]
  refine pp rfl rfl (pr_conv rfl (cnv_u64_u8 _ Tryd.underlying45 Tryd.underlying5)) ?_;simp only [nf]
  refine pp rfl rfl (pr_idxA1 rfl rfl Tryd.underlying130 sz5 (by omega)) ?_;simp only [nf]
  refine plan_r rfl rfl (rr_load1 (fun w' hw => hH.far 0 rfl hw (by simp only [List.mem_cons, List.not_mem_nil, or_false, not_or]; exact hH.other (i := 2) rfl (j := 0) rfl (by decide) rfl)) rfl Tryd.underlying45 rfl rfl) ?_
  (try simp only [nf])
  refine pp rfl rfl (pr_bin rfl rfl (bin_shr_u64 _ _ _)) ?_;simp only [nf]
  refine pp rfl rfl (pr_conv rfl (cnv_u64_u8 _ Tryd.underlying45 Tryd.underlying5)) ?_;simp only [nf]
  refine plan_store1s 2 rfl rfl hH rfl rfl rfl rfl sz5 (by simp <;> omega) (by simp) ?_
  clear hH
  intro w27 hH
  (try simp only [nf, nh, Value.cells, arrB_set] at hH ⊢)
  refine pp rfl rfl (pr_idxA1 rfl rfl Tryd.underlying130 sz5 (by omega)) ?_;simp only [nf]
  refine plan_store1s 2 rfl rfl hH rfl rfl rfl rfl sz5 (by simp <;> omega) (by simp) ?_
  clear hH
  intro w28 hH
  (try simp only [nf, nh, Value.cells, arrB_set] at hH ⊢)
  refine plan_nil hH ?_
  clear hH
  intro w29 hH
  refine hK24 _ _ ?_
  (try clear hK24 K24)
  refine wrt [.p 0, .p 1] ?_
  refine pp rfl rfl (pr_bin rfl rfl (by first | exact bin_add_n (n := 1) (by omega) | exact bin_add_i (by omega) (by omega))) ?_;simp only [nf]
  refine pm ?_;simp only [nf]
  refine plan_nil hH ?_
  clear hH
  intro w30 hH
  (try simp only [Exit.then, Exit.inBlock, ↓reduceIte, Nat.reduceEqDiff])
  refine ⟨8 - (i + 1), ?_, _, rfl, by kernel_rfl, ?_⟩
  · first | omega | (omega)
  simp only [ga]
  refine ⟨i + 1, rfl, ?_, rfl, ?_⟩
  ·
   exact hH.say 2 rfl (arr8_congr fun j hj => nb_step p i j (by omega) hj)
  · first | omega | (omega)
 ·
  (try simp only [cnd] at hc23)
  refine wp_exit ?_
  (try simp only [Exit.then, Exit.inBlock, ↓reduceIte, Nat.reduceEqDiff])
  refine hK11 _ _ ?_
  (try clear hK11 K11)
  refine wp_seq_k ?_
  intro K31 hK31
  refine wrt [.q 0, .e 1] ?_
  refine pq rfl rfl (qr_loadW rfl (hH.blk 2 rfl) Tryd.underlying130 rfl sz130 (by simp)) ?_;simp only [nf]
  refine plan_storeW 1 rfl rfl hH rfl rfl rfl one_arr8 sz130 (by simp) (by simp) ?_
  clear hH
  intro w32 hH
  (try simp only [nf, nh, Value.cells, arrB_set] at hH ⊢)
  refine plan_nil hH ?_
  clear hH
  intro w33 hH
  refine hK31 _ _ ?_
  (try clear hK31 K31)
  refine wp_ret ?_
  (try simp only [Exit.then, Exit.inBlock, ↓reduceIte, Nat.reduceEqDiff])
  refine BP.retc rfl rfl (hH.blk 1 rfl) Tryd.underlying130 rfl sz130 (by simp) ?_
  obtain rfl : i = 8 := by omega
  exact ⟨by rw [arr8_congr fun j hj => if_pos (by omega)], hH.chg⟩
theorem of_calls (f : Nat → UInt8) (w : World) : Ret Tryd.prog 61 #[.agg (arr8 16 f)] w fun v w' => v = PV (ofP f) ∧ Chg [] w w' := by
 refine Ret.enter Tryd.func61 rfl ?_
 simp only [Tryd.ntmps61, fe, Nat.reduceAdd, Nat.reduceSub]
 have hH := Hp.start [] w
 refine wp_seq_k ?_
 intro K1 hK1
 refine wrt [.x 0, .x 1] ?_
 refine plan_box rfl rfl hH rfl ?_
 clear hH
 intro b2 w3 hH
 (try simp only [nf, nh, Value.cells, arrB_set] at hH ⊢)
 refine plan_alloc rfl rfl hH zc128 ?_
 clear hH
 intro b4 w5 hH
 (try simp only [nf, nh, Value.cells, arrB_set] at hH ⊢)
 refine plan_nil hH ?_
 clear hH
 intro w6 hH
 refine hK1 _ _ ?_
 (try clear hK1 K1)
 refine wp_seq_k ?_
 intro K7 hK7
 refine wrp [.p 0, .p 2, .q 1, .q 3, .p 4, .e 5] ?_
 refine pp rfl rfl (pr_slice_arr_h (h := 8) rfl rfl Tryd.underlying130 sz5 (by omega)) ?_;simp only [nf]
 (try simp only [Nat.mul_one, Nat.zero_add, Nat.add_sub_cancel_left])
 refine pp rfl rfl (pr_slice_arr_l1 (l := 8) rfl rfl Tryd.underlying130 sz5 (by omega)) ?_;simp only [nf]
 (try simp only [Nat.mul_one, Nat.zero_add, Nat.add_sub_cancel_left])
 refine pq rfl rfl (qr_call cf91 (fun w' hw => word_calls _ _ w' ((Sl.of_arr8 (hH.blk 0 rfl) (by omega) (by omega)).chg hw) (by simp)) rfl) ?_;simp only [nf]
 refine pq rfl rfl (qr_call cf91 (fun w' hw => word_calls _ _ w' ((Sl.of_arr8 (hH.blk 0 rfl) (by omega) (by omega)).chg hw) (by simp)) rfl) ?_;simp only [nf]
 refine pp rfl rfl (pr_build (by rfl) (bd128_0_1 _ _)) ?_;simp only [nf]
 refine plan_storeW 1 rfl rfl hH rfl rfl rfl (by simp [Value.oneCell']) sz128 (by simp) (by simp) ?_
 clear hH
 intro w8 hH
 (try simp only [nf, nh, Value.cells, arrB_set] at hH ⊢)
 refine plan_nil hH ?_
 clear hH
 intro w9 hH
 refine hK7 _ _ ?_
 (try clear hK7 K7)
 refine wp_ret ?_
 (try simp only [Exit.then, Exit.inBlock, ↓reduceIte, Nat.reduceEqDiff])
 refine BP.retc rfl rfl (hH.blk 1 rfl) Tryd.underlying128 rfl sz128 (by simp) ?_
 exact ⟨rfl, hH.chg⟩
theorem gtimes_calls (a b : P2) (w : World) : Ret Tryd.prog 93 #[PV a, PV b] w fun v w' => v = PV (mulP a b) ∧ Chg [] w w' := by
 refine Ret.enter Tryd.func93 rfl ?_
 simp only [Tryd.ntmps93, fe, Nat.reduceAdd, Nat.reduceSub]
 have hH := Hp.start [] w
 refine wp_seq_k ?_
 intro K1 hK1
 refine wrt [.x 0, .x 1, .x 2] ?_
 refine plan_box rfl rfl hH rfl ?_
 clear hH
 intro b2 w3 hH
 (try simp only [nf, nh, Value.cells, arrB_set] at hH ⊢)
 refine plan_box rfl rfl hH rfl ?_
 clear hH
 intro b4 w5 hH
 (try simp only [nf, nh, Value.cells, arrB_set] at hH ⊢)
 refine plan_alloc rfl rfl hH zc128 ?_
 clear hH
 intro b6 w7 hH
 (try simp only [nf, nh, Value.cells, arrB_set] at hH ⊢)
 refine plan_nil hH ?_
 clear hH
 intro w8 hH
 refine hK1 _ _ ?_
 (try clear hK1 K1)
 refine wp_seq_k ?_
 intro K9 hK9
 refine wrt [.x 0] ?_
 refine plan_alloc rfl rfl hH zc128 ?_
 clear hH
 intro b10 w11 hH
 (try simp only [nf, nh, Value.cells, arrB_set] at hH ⊢)
 refine plan_nil hH ?_
 clear hH
 intro w12 hH
 refine hK9 _ _ ?_
 (try clear hK9 K9)
 refine wp_seq_k ?_
 intro K13 hK13
 refine wp_seq_k ?_
 intro K14 hK14
 refine wrt [.p 0] ?_
 refine pk 0 ?_;simp only [nf]
 refine plan_nil hH ?_
 clear hH
 intro w15 hH
 refine hK14 _ _ ?_
 (try clear hK14 K14)
 refine wp_block ?_
 refine wp_loopT [10] [6, 7, 8, 9, 11, 12, 13, 14, 15, 16, 17, 18, 19, 20, 21, 22, 23, 24, 25, 26, 27, 28, 29, 30, 31, 32, 33, 34, 35, 36, 37, 38, 39, 40, 41, 42, 43, 44, 45, 46, 47, 48, 49, 50, 51, 52, 53, 54, 55, 56, 57, 58, 59, 60, 61] (fun (n16 : Nat) (vs : List Value) (w' : World) => ∃ (i : Nat), vs = [I64 (i : Nat)] ∧ Hp [] w w' [(some b2, 128, #[V64 a.1, V64 a.2]), (some b4, 128, #[V64 (bW b i).1, V64 (bW b i).2]), (some b6, 128, #[V64 0, V64 0]), (some b10, 128, #[V64 (zW a b i).1, V64 (zW a b i).2])] ∧ n16 = 128 - i ∧ i ≤ 128) (128 - 0) (by kernel_rfl) ?_ ?_
 ·
  simp only [ga]
  refine ⟨0, rfl, ?_, rfl, ?_⟩
  ·
   exact hH
  · first | omega | (omega)
 clear hH
 intro n16 vs17 w18 hR19 d0
 obtain ⟨i, rfl, hH, hn20, hf21⟩ := hR19
 simp only [putAll, putD, List.set_cons_zero, List.set_cons_succ, Nat.zero_add, Nat.reduceAdd]
 refine wp_seq_k ?_
 intro K22 hK22
 refine wrt [.p 0] ?_
 refine pp rfl rfl (pr_bin rfl rfl (by first | exact bin_lss_n (n := 128)  | exact bin_lss_i)) ?_;simp only [nf]
 refine plan_nil hH ?_
 clear hH
 intro w23 hH
 refine hK22 _ _ ?_
 (try clear hK22 K22)
 refine wp_seq_k ?_
 intro K24 hK24
 refine wp_cond_split rfl (fun hc25 => ?_) (fun hc25 => ?_)
 ·
  (try simp only [cnd] at hc25)
  refine wp_skip ?_
  refine hK24 _ _ ?_
  (try clear hK24 K24)
  refine wp_seq_k ?_
  intro K26 hK26
  refine wp_block ?_
  refine wp_seq_k ?_
  intro K27 hK27
  refine wrt [.p 0, .p 1] ?_
  refine pm (pa ?_);simp only [nf]
  refine plan_nil hH ?_
  clear hH
  intro w28 hH
  refine hK27 _ _ ?_
  (try clear hK27 K27)
  refine wp_seq_k ?_
  intro K29 hK29
  refine wrt [.p 0, .q 1, .p 2] ?_
  refine pp rfl rfl (pr_fieldAddr 0 rfl Tryd.underlying128 rfl rfl sz45) ?_;simp only [nf]
  refine pq rfl rfl (qr_load1 rfl Tryd.underlying45 rfl ((hH.blk 0 rfl).cell rfl)) ?_;simp only [nf]
  refine pa ?_;simp only [nf]
  refine plan_nil hH ?_
  clear hH
  intro w30 hH
  refine hK29 _ _ ?_
  (try clear hK29 K29)
  refine wp_seq_k ?_
  intro K31 hK31
  refine wp_seq_k ?_
  intro K32 hK32
  refine wrt [.p 0, .p 1] ?_
  refine pm ?_;simp only [nf]
  refine pp rfl rfl (pr_bin rfl rfl (by first | exact bin_geq_n (n := 64)  | exact bin_geq_i)) ?_;simp only [nf]
  refine plan_nil hH ?_
  clear hH
  intro w33 hH
  refine hK32 _ _ ?_
  (try clear hK32 K32)
  refine wp_cond_split rfl (fun hc34 => ?_) (fun hc34 => ?_)
  ·
   (try simp only [cnd] at hc34)
   refine wrt [.p 0, .q 1, .p 2] ?_
   refine pp rfl rfl (pr_fieldAddr 1 rfl Tryd.underlying128 rfl rfl sz45) ?_;simp only [nf]
   refine pq rfl rfl (qr_load1 rfl Tryd.underlying45 rfl ((hH.blk 0 rfl).cell rfl)) ?_;simp only [nf]
   refine pa ?_;simp only [nf]
   refine plan_nil hH ?_
   clear hH
   intro w35 hH
   refine hK31 _ _ ?_
   (try clear hK31 K31)
   refine wp_seq_k ?_
   intro K36 hK36
   refine wrt [.p 0, .p 1, .p 2, .p 3, .p 4, .p 5, .p 6, .p 7] ?_
   refine pm (pm ?_);simp only [nf]
   refine pp rfl rfl (pr_bin rfl rfl (by first | exact bin_rem_n (n := 64) (by omega))) ?_;simp only [nf]
   refine pp rfl rfl (pr_bin rfl rfl (by first | exact bin_sub_n (m := 63) (by omega) (by omega) | exact bin_sub_i (by omega) (by omega))) ?_;simp only [nf]
   refine pp rfl rfl (pr_bin rfl rfl (bin_shr_u64 _ _ _)) ?_;simp only [nf]
   refine pp rfl rfl (pr_bin rfl rfl (bin_and_u64 _ 1)) ?_;simp only [nf]
   refine pp rfl rfl (pr_neg64 rfl) ?_;simp only [nf]
   refine pa ?_;simp only [nf]
   refine plan_nil hH ?_
   clear hH
   intro w37 hH
   refine hK36 _ _ ?_
   (try clear hK36 K36)
   refine wp_seq_k ?_
   intro K38 hK38
   refine wrt [.p 0, .q 1, .p 2, .q 3, .p 4, .p 5, .p 6, .p 7, .e 8] ?_
   refine pp rfl rfl (pr_fieldAddr 0 rfl Tryd.underlying128 rfl rfl sz45) ?_;simp only [nf]
   refine pq rfl rfl (qr_load1 rfl Tryd.underlying45 rfl ((hH.blk 3 rfl).cell rfl)) ?_;simp only [nf]
   refine pp rfl rfl (pr_fieldAddr 0 rfl Tryd.underlying128 rfl rfl sz45) ?_;simp only [nf]
   refine pq rfl rfl (qr_load1 rfl Tryd.underlying45 rfl ((hH.blk 1 rfl).cell rfl)) ?_;simp only [nf]
   refine pm ?_;simp only [nf]
   refine pp rfl rfl (pr_bin rfl rfl (bin_and_u64 _ _)) ?_;simp only [nf]
   refine pp rfl rfl (pr_bin rfl rfl (bin_xor_u64 _ _)) ?_;simp only [nf]
   refine pp rfl rfl (pr_fieldAddr 0 rfl Tryd.underlying128 rfl rfl sz45) ?_;simp only [nf]
   refine plan_store1 3 rfl rfl hH rfl rfl rfl rfl sz45 (by simp <;> omega) ?_
   clear hH
   intro w39 hH
   (try simp only [nf, nh, Value.cells, arrB_set] at hH ⊢)
   refine plan_nil hH ?_
   clear hH
   intro w40 hH
   refine hK38 _ _ ?_
   (try clear hK38 K38)
   refine wp_seq_k ?_
   intro K41 hK41
   refine wrt [.p 0, .q 1, .p 2, .q 3, .p 4, .p 5, .p 6, .p 7, .e 8] ?_
   refine pp rfl rfl (pr_fieldAddr 1 rfl Tryd.underlying128 rfl rfl sz45) ?_;simp only [nf]
   refine pq rfl rfl (qr_load1 rfl Tryd.underlying45 rfl ((hH.blk 3 rfl).cell rfl)) ?_;simp only [nf]
   refine pp rfl rfl (pr_fieldAddr 1 rfl Tryd.underlying128 rfl rfl sz45) ?_;simp only [nf]
   refine pq rfl rfl (qr_load1 rfl Tryd.underlying45 rfl ((hH.blk 1 rfl).cell rfl)) ?_;simp only [nf]
   refine pm ?_;simp only [nf]
   refine pp rfl rfl (pr_bin rfl rfl (bin_and_u64 _ _)) ?_;simp only [nf]
   refine pp rfl rfl (pr_bin rfl rfl (bin_xor_u64 _ _)) ?_;simp only [nf]
   refine pp rfl rfl (pr_fieldAddr 1 rfl Tryd.underlying128 rfl rfl sz45) ?_;simp only [nf]
   refine plan_store1 3 rfl rfl hH rfl rfl rfl rfl sz45 (by simp <;> omega) ?_
   clear hH
   intro w42 hH
   (try simp only [nf, nh, Value.cells, arrB_set] at hH ⊢)
   refine plan_nil hH ?_
   clear hH
   intro w43 hH
   refine hK41 _ _ ?_
   (try clear hK41 K41)
   refine wp_seq_k ?_
   intro K44 hK44
   refine wrt [.p 0, .q 1, .p 2, .p 3, .p 4] ?_
   refine pp rfl rfl (pr_fieldAddr 1 rfl Tryd.underlying128 rfl rfl sz45) ?_;simp only [nf]
   refine pq rfl rfl (qr_load1 rfl Tryd.underlying45 rfl ((hH.blk 1 rfl).cell rfl)) ?_;simp only [nf]
   refine pp rfl rfl (pr_bin rfl rfl (bin_and_u64 _ 1)) ?_;simp only [nf]
   refine pp rfl rfl (pr_neg64 rfl) ?_;simp only [nf]
   refine pa ?_;simp only [nf]
   refine plan_nil hH ?_
   clear hH
   intro w45 hH
   refine hK44 _ _ ?_
   (try clear hK44 K44)
   refine wp_seq_k ?_
   intro K46 hK46
   refine wrt [.p 0, .q 1, .p 2, .p 3, .q 4, .p 5, .p 6, .p 7, .e 8] ?_
   refine pp rfl rfl (pr_fieldAddr 1 rfl Tryd.underlying128 rfl rfl sz45) ?_;simp only [nf]
   refine pq rfl rfl (qr_load1 rfl Tryd.underlying45 rfl ((hH.blk 1 rfl).cell rfl)) ?_;simp only [nf]
   refine pp rfl rfl (pr_bin rfl rfl (bin_shrc_u64 1 1 (by decide) rfl _)) ?_;simp only [nf]
   refine pp rfl rfl (pr_fieldAddr 0 rfl Tryd.underlying128 rfl rfl sz45) ?_;simp only [nf]
   refine pq rfl rfl (qr_load1 rfl Tryd.underlying45 rfl ((hH.blk 1 rfl).cell rfl)) ?_;simp only [nf]
   refine pp rfl rfl (pr_bin rfl rfl (bin_shlc_u64 63 63 (by decide) rfl _)) ?_;simp only [nf]
   refine pp rfl rfl (pr_bin rfl rfl (bin_or_u64 _ _)) ?_;simp only [nf]
   refine pp rfl rfl (pr_fieldAddr 1 rfl Tryd.underlying128 rfl rfl sz45) ?_;simp only [nf]
   refine plan_store1 1 rfl rfl hH rfl rfl rfl rfl sz45 (by simp <;> omega) ?_
   clear hH
   intro w47 hH
   (try simp only [nf, nh, Value.cells, arrB_set] at hH ⊢)
   refine plan_nil hH ?_
   clear hH
   intro w48 hH
   refine hK46 _ _ ?_
   (try clear hK46 K46)
   refine wrt [.p 0, .q 1, .p 2, .p 3, .p 4, .p 5, .p 6, .e 7] ?_
   refine pp rfl rfl (pr_fieldAddr 0 rfl Tryd.underlying128 rfl rfl sz45) ?_;simp only [nf]
   refine pq rfl rfl (qr_load1 rfl Tryd.underlying45 rfl ((hH.blk 1 rfl).cell rfl)) ?_;simp only [nf]
   refine pp rfl rfl (pr_bin rfl rfl (bin_shrc_u64 1 1 (by decide) rfl _)) ?_;simp only [nf]
   refine pm ?_;simp only [nf]
   refine pp rfl rfl (pr_bin rfl rfl (bin_and_u64 _ 16212958658533785600)) ?_;simp only [nf]
   refine pp rfl rfl (pr_bin rfl rfl (bin_xor_u64 _ _)) ?_;simp only [nf]
   refine pp rfl rfl (pr_fieldAddr 0 rfl Tryd.underlying128 rfl rfl sz45) ?_;simp only [nf]
   refine plan_store1 1 rfl rfl hH rfl rfl rfl rfl sz45 (by simp <;> omega) ?_
   clear hH
   intro w49 hH
   (try simp only [nf, nh, Value.cells, arrB_set] at hH ⊢)
   refine plan_nil hH ?_
   clear hH
   intro w50 hH
   refine hK26 _ _ ?_
   (try clear hK26 K26)
   refine wrt [.p 0, .p 1] ?_
   refine pp rfl rfl (pr_bin rfl rfl (by first | exact bin_add_n (n := 1) (by omega) | exact bin_add_i (by omega) (by omega))) ?_;simp only [nf]
   refine pm ?_;simp only [nf]
   refine plan_nil hH ?_
   clear hH
   intro w51 hH
   (try simp only [Exit.then, Exit.inBlock, ↓reduceIte, Nat.reduceEqDiff])
   refine ⟨128 - (i + 1), ?_, _, rfl, by kernel_rfl, ?_⟩
   · first | omega | (omega)
   simp only [ga]
   refine ⟨i + 1, rfl, ?_, rfl, ?_⟩
   ·
    refine hH.cast ?_
    simp only [zW, bW, mskW]
    rw [if_pos (by omega : 64 ≤ i)]
   · first | omega | (omega)
  ·
   (try simp only [cnd] at hc34)
   refine wp_skip ?_
   refine hK31 _ _ ?_
   (try clear hK31 K31)
   refine wp_seq_k ?_
   intro K52 hK52
   refine wrt [.p 0, .p 1, .p 2, .p 3, .p 4, .p 5, .p 6, .p 7] ?_
   refine pm (pm ?_);simp only [nf]
   refine pp rfl rfl (pr_bin rfl rfl (by first | exact bin_rem_n (n := 64) (by omega))) ?_;simp only [nf]
   refine pp rfl rfl (pr_bin rfl rfl (by first | exact bin_sub_n (m := 63) (by omega) (by omega) | exact bin_sub_i (by omega) (by omega))) ?_;simp only [nf]
   refine pp rfl rfl (pr_bin rfl rfl (bin_shr_u64 _ _ _)) ?_;simp only [nf]
   refine pp rfl rfl (pr_bin rfl rfl (bin_and_u64 _ 1)) ?_;simp only [nf]
   refine pp rfl rfl (pr_neg64 rfl) ?_;simp only [nf]
   refine pa ?_;simp only [nf]
   refine plan_nil hH ?_
   clear hH
   intro w53 hH
   refine hK52 _ _ ?_
   (try clear hK52 K52)
   refine wp_seq_k ?_
   intro K54 hK54
   refine wrt [.p 0, .q 1, .p 2, .q 3, .p 4, .p 5, .p 6, .p 7, .e 8] ?_
   refine pp rfl rfl (pr_fieldAddr 0 rfl Tryd.underlying128 rfl rfl sz45) ?_;simp only [nf]
   refine pq rfl rfl (qr_load1 rfl Tryd.underlying45 rfl ((hH.blk 3 rfl).cell rfl)) ?_;simp only [nf]
   refine pp rfl rfl (pr_fieldAddr 0 rfl Tryd.underlying128 rfl rfl sz45) ?_;simp only [nf]
   refine pq rfl rfl (qr_load1 rfl Tryd.underlying45 rfl ((hH.blk 1 rfl).cell rfl)) ?_;simp only [nf]
   refine pm ?_;simp only [nf]
   refine pp rfl rfl (pr_bin rfl rfl (bin_and_u64 _ _)) ?_;simp only [nf]
   refine pp rfl rfl (pr_bin rfl rfl (bin_xor_u64 _ _)) ?_;simp only [nf]
   refine pp rfl rfl (pr_fieldAddr 0 rfl Tryd.underlying128 rfl rfl sz45) ?_;simp only [nf]
   refine plan_store1 3 rfl rfl hH rfl rfl rfl rfl sz45 (by simp <;> omega) ?_
   clear hH
   intro w55 hH
   (try simp only [nf, nh, Value.cells, arrB_set] at hH ⊢)
   refine plan_nil hH ?_
   clear hH
   intro w56 hH
   refine hK54 _ _ ?_
   (try clear hK54 K54)
   refine wp_seq_k ?_
   intro K57 hK57
   refine wrt [.p 0, .q 1, .p 2, .q 3, .p 4, .p 5, .p 6, .p 7, .e 8] ?_
   refine pp rfl rfl (pr_fieldAddr 1 rfl Tryd.underlying128 rfl rfl sz45) ?_;simp only [nf]
   refine pq rfl rfl (qr_load1 rfl Tryd.underlying45 rfl ((hH.blk 3 rfl).cell rfl)) ?_;simp only [nf]
   refine pp rfl rfl (pr_fieldAddr 1 rfl Tryd.underlying128 rfl rfl sz45) ?_;simp only [nf]
   refine pq rfl rfl (qr_load1 rfl Tryd.underlying45 rfl ((hH.blk 1 rfl).cell rfl)) ?_;simp only [nf]
   refine pm ?_;simp only [nf]
   refine pp rfl rfl (pr_bin rfl rfl (bin_and_u64 _ _)) ?_;simp only [nf]
   refine pp rfl rfl (pr_bin rfl rfl (bin_xor_u64 _ _)) ?_;simp only [nf]
   refine pp rfl rfl (pr_fieldAddr 1 rfl Tryd.underlying128 rfl rfl sz45) ?_;simp only [nf]
   refine plan_store1 3 rfl rfl hH rfl rfl rfl rfl sz45 (by simp <;> omega) ?_
   clear hH
   intro w58 hH
   (try simp only [nf, nh, Value.cells, arrB_set] at hH ⊢)
   refine plan_nil hH ?_
   clear hH
   intro w59 hH
   refine hK57 _ _ ?_
   (try clear hK57 K57)
   refine wp_seq_k ?_
   intro K60 hK60
   refine wrt [.p 0, .q 1, .p 2, .p 3, .p 4] ?_
   refine pp rfl rfl (pr_fieldAddr 1 rfl Tryd.underlying128 rfl rfl sz45) ?_;simp only [nf]
   refine pq rfl rfl (qr_load1 rfl Tryd.underlying45 rfl ((hH.blk 1 rfl).cell rfl)) ?_;simp only [nf]
   refine pp rfl rfl (pr_bin rfl rfl (bin_and_u64 _ 1)) ?_;simp only [nf]
   refine pp rfl rfl (pr_neg64 rfl) ?_;simp only [nf]
   refine pa ?_;simp only [nf]
   refine plan_nil hH ?_
   clear hH
   intro w61 hH
   refine hK60 _ _ ?_
   (try clear hK60 K60)
   refine wp_seq_k ?_
   intro K62 hK62
   refine wrt [.p 0, .q 1, .p 2, .p 3, .q 4, .p 5, .p 6, .p 7, .e 8] ?_
   refine pp rfl rfl (pr_fieldAddr 1 rfl Tryd.underlying128 rfl rfl sz45) ?_;simp only [nf]
   refine pq rfl rfl (qr_load1 rfl Tryd.underlying45 rfl ((hH.blk 1 rfl).cell rfl)) ?_;simp only [nf]
   refine pp rfl rfl (pr_bin rfl rfl (bin_shrc_u64 1 1 (by decide) rfl _)) ?_;simp only [nf]
   refine pp rfl rfl (pr_fieldAddr 0 rfl Tryd.underlying128 rfl rfl sz45) ?_;simp only [nf]
   refine pq rfl rfl (qr_load1 rfl Tryd.underlying45 rfl ((hH.blk 1 rfl).cell rfl)) ?_;simp only [nf]
   refine pp rfl rfl (pr_bin rfl rfl (bin_shlc_u64 63 63 (by decide) rfl _)) ?_;simp only [nf]
   refine pp rfl rfl (pr_bin rfl rfl (bin_or_u64 _ _)) ?_;simp only [nf]
   refine pp rfl rfl (pr_fieldAddr 1 rfl Tryd.underlying128 rfl rfl sz45) ?_;simp only [nf]
   refine plan_store1 1 rfl rfl hH rfl rfl rfl rfl sz45 (by simp <;> omega) ?_
   clear hH
   intro w63 hH
   (try simp only [nf, nh, Value.cells, arrB_set] at hH ⊢)
   refine plan_nil hH ?_
   clear hH
   intro w64 hH
   refine hK62 _ _ ?_
   (try clear hK62 K62)
   refine wrt [.p 0, .q 1, .p 2, .p 3, .p 4, .p 5, .p 6, .e 7] ?_
   refine pp rfl rfl (pr_fieldAddr 0 rfl Tryd.underlying128 rfl rfl sz45) ?_;simp only [nf]
   refine pq rfl rfl (qr_load1 rfl Tryd.underlying45 rfl ((hH.blk 1 rfl).cell rfl)) ?_;simp only [nf]
   refine pp rfl rfl (pr_bin rfl rfl (bin_shrc_u64 1 1 (by decide) rfl _)) ?_;simp only [nf]
   refine pm ?_;simp only [nf]
   refine pp rfl rfl (pr_bin rfl rfl (bin_and_u64 _ 16212958658533785600)) ?_;simp only [nf]
   refine pp rfl rfl (pr_bin rfl rfl (bin_xor_u64 _ _)) ?_;simp only [nf]
   refine pp rfl rfl (pr_fieldAddr 0 rfl Tryd.underlying128 rfl rfl sz45) ?_;simp only [nf]
   refine plan_store1 1 rfl rfl hH rfl rfl rfl rfl sz45 (by simp <;> omega) ?_
   clear hH
   intro w65 hH
   (try simp only [nf, nh, Value.cells, arrB_set] at hH ⊢)
   refine plan_nil hH ?_
   clear hH
   intro w66 hH
   refine hK26 _ _ ?_
   (try clear hK26 K26)
   refine wrt [.p 0, .p 1] ?_
   refine pp rfl rfl (pr_bin rfl rfl (by first | exact bin_add_n (n := 1) (by omega) | exact bin_add_i (by omega) (by omega))) ?_;simp only [nf]
   refine pm ?_;simp only [nf]
   refine plan_nil hH ?_
   clear hH
   intro w67 hH
   (try simp only [Exit.then, Exit.inBlock, ↓reduceIte, Nat.reduceEqDiff])
   refine ⟨128 - (i + 1), ?_, _, rfl, by kernel_rfl, ?_⟩
   · first | omega | (omega)
   simp only [ga]
   refine ⟨i + 1, rfl, ?_, rfl, ?_⟩
   ·
    refine hH.cast ?_
    simp only [zW, bW, mskW]
    rw [if_neg (by omega : ¬ 64 ≤ i)]
   · first | omega | (omega)
 ·
  (try simp only [cnd] at hc25)
  refine wp_exit ?_
  (try simp only [Exit.then, Exit.inBlock, ↓reduceIte, Nat.reduceEqDiff])
  refine hK13 _ _ ?_
  (try clear hK13 K13)
  refine wp_seq_k ?_
  intro K68 hK68
  refine wrt [.q 0, .e 1] ?_
  refine pq rfl rfl (qr_loadW rfl (hH.blk 3 rfl) Tryd.underlying128 rfl sz128 (by simp)) ?_;simp only [nf]
  refine plan_storeW 2 rfl rfl hH rfl rfl rfl (by simp [Value.oneCell']) sz128 (by simp) (by simp) ?_
  clear hH
  intro w69 hH
  (try simp only [nf, nh, Value.cells, arrB_set] at hH ⊢)
  refine plan_nil hH ?_
  clear hH
  intro w70 hH
  refine hK68 _ _ ?_
  (try clear hK68 K68)
  refine wp_ret ?_
  (try simp only [Exit.then, Exit.inBlock, ↓reduceIte, Nat.reduceEqDiff])
  refine BP.retc rfl rfl (hH.blk 2 rfl) Tryd.underlying128 rfl sz128 (by simp) ?_
  obtain rfl : i = 128 := by omega
  exact ⟨rfl, hH.chg⟩
end Go.Proofs.YtdkjdioccpoacaaDoor
set_option linter.unusedSimpArgs false
set_option linter.unusedVariables false
set_option maxRecDepth 100000
set_option maxHeartbeats 4000000
namespace Go.Proofs.YtdkjdioccpoacaaDoor
open Go
open List (getD_cons_zero getD_cons_succ set_cons_zero set_cons_succ)
theorem copy_blk (l : List UInt8) (k j : Nat) (hj : j < 16) : (if 0 ≤ j ∧ j < min (l.drop (16 * k)).length 16 then (l.drop (16 * k)).getD (j - 0) 0 else 0) = l.getD (16 * k + j) 0 := by
  rw [Nat.sub_zero]
  by_cases h : j < min (l.drop (16 * k)).length 16
  · rw [if_pos ⟨Nat.zero_le _, h⟩]
    simp only [List.getD, List.getElem?_drop]
  · rw [if_neg (by omega)]
    rw [List.length_drop] at h
    simp only [List.getD]
    rw [List.getElem?_eq_none (by omega)]; rfl
theorem drop_blk (l : List UInt8) (k : Nat) : (l.drop (16 * k)).drop (min (l.drop (16 * k)).length 16) = l.drop (16 * (k + 1)) := by
  rw [List.drop_drop]
  by_cases h : 16 * k + 16 ≤ l.length
  · rw [List.length_drop, show 16 * k + min (l.length - 16 * k) 16 = 16 * (k + 1) by omega]
  · rw [List.length_drop, List.drop_eq_nil_of_le (by omega), List.drop_eq_nil_of_le (by omega)]
def orD (a b : List UInt8) : Nat → UInt8
  | 0 => 0
  | n + 1 => orD a b n ||| (a.getD n 0 ^^^ b.getD n 0)
theorem or8_zero {x y : UInt8} : x ||| y = 0 ↔ x = 0 ∧ y = 0 := by
  constructor
  · intro h
    have h1 := congrArg UInt8.toNat h
    rw [UInt8.toNat_or] at h1
    have h1 : x.toNat ||| y.toNat = 0 := h1
    rw [Nat.or_eq_zero_iff] at h1
    exact ⟨UInt8.toNat_inj.1 h1.1, UInt8.toNat_inj.1 h1.2⟩
  · rintro ⟨rfl, rfl⟩; rfl
theorem xor8_zero {x y : UInt8} : x ^^^ y = 0 ↔ x = y := by
  constructor
  · intro h
    have := congrArg (· ^^^ y) h
    simpa [UInt8.xor_assoc] using this
  · rintro rfl; exact UInt8.xor_self
theorem orD_zero (a b : List UInt8) : ∀ n, orD a b n = 0 ↔ ∀ i, i < n → a.getD i 0 = b.getD i 0
  | 0 => ⟨fun _ i hi => absurd hi (Nat.not_lt_zero _), fun _ => rfl⟩
  | n + 1 => by
    rw [orD, or8_zero, orD_zero a b n, xor8_zero]
    constructor
    · rintro ⟨h1, h2⟩ i hi
      by_cases e : i = n
      · subst e; exact h2
      · exact h1 i (by omega)
    · intro h
      exact ⟨fun i hi => h i (by omega), h n (by omega)⟩
theorem same_is {a b : List UInt8} (h : a.length = b.length) : (orD a b a.length == 0) = (a == b) := by
  rw [Bool.eq_iff_iff, beq_iff_eq, beq_iff_eq, orD_zero]
  constructor
  · intro h1
    apply List.ext_getElem h
    intro i h2 h3
    have := h1 i h2
    simpa [List.getD, h2, h3] using this
  · rintro rfl i _; rfl
def gctr (nl : List UInt8) (n : UInt8) (i : Nat) : UInt8 := (nl ++ [0, 0, 0, n]).getD i 0
def sealP (h : P2) (al cl : List UInt8) : P2 :=
  mulP ((takeP h (takeP h (0, 0) al (blocks al)) cl (blocks cl)).1 ^^^ UInt64.ofNat al.length <<< 3, (takeP h (takeP h (0, 0) al (blocks al)) cl (blocks cl)).2 ^^^ UInt64.ofNat cl.length <<< 3) h
def sealL (kf : Nat → UInt8) (h : P2) (nl al cl : List UInt8) : List UInt8 := strm kf (gctr nl 1) 0 ((List.range 16).map (nbP (sealP h al cl))) 16
def hidL (kf : Nat → UInt8) (nl bl : List UInt8) : List UInt8 := strm kf (gctr nl 2) 0 bl bl.length
def sealedL (kf : Nat → UInt8) (h : P2) (nl al bl : List UInt8) : List UInt8 := hidL kf nl bl ++ sealL kf h nl al (hidL kf nl bl)
theorem sealL_len (kf : Nat → UInt8) (h : P2) (nl al cl : List UInt8) : (sealL kf h nl al cl).length = 16 := strm_len ..
theorem hidL_len (kf : Nat → UInt8) (nl bl : List UInt8) : (hidL kf nl bl).length = bl.length := strm_len ..
def hP (kf : Nat → UInt8) : P2 := ofP (aesR kf (fun _ => 0) 10)
theorem hP_is (kf : Nat → UInt8) : ofP (aesR kf (fun i => ((List.range 16).map fun _ => (0 : UInt8)).getD i 0) 10) = hP kf := by
  unfold hP
  rw [show (fun i => ((List.range 16).map fun _ => (0 : UInt8)).getD i 0) = fun _ => 0 from funext (zeros_getD 16)]
theorem take_calls (bx : Nat) (X v : Value) (h r : P2) (l : List UInt8) (w : World) (hx : Blk w bx 132 #[X, V64 h.1, V64 h.2]) (hv : Sl w v l) :
    Ret Tryd.prog 92 #[PT bx 0, PV r, v] w fun v' w' => v' = PV (takeP h r l (blocks l)) ∧ Chg [] w w' := by
 refine Ret.enter Tryd.func92 rfl ?_
 simp only [Tryd.ntmps92, fe, Nat.reduceAdd, Nat.reduceSub]
 have hH := Hp.start [] w
 refine wp_seq_k ?_
 intro K1 hK1
 refine wrt [.x 0, .x 1] ?_
 refine plan_box rfl rfl hH rfl ?_
 clear hH
 intro b2 w3 hH
 (try simp only [nf, nh, Value.cells, arrB_set] at hH ⊢)
 refine plan_alloc rfl rfl hH zc128 ?_
 clear hH
 intro b4 w5 hH
 (try simp only [nf, nh, Value.cells, arrB_set] at hH ⊢)
 refine plan_nil hH ?_
 clear hH
 intro w6 hH
 refine hK1 _ _ ?_
 (try clear hK1 K1)
 refine wp_seq_k ?_
 intro K7 hK7
 refine wp_block ?_
 obtain ⟨kc8, hkc9, hN⟩ := hH.name 1 rfl
 replace hH := hN; clear hN; simp only [List.set_cons_zero, List.set_cons_succ] at hH
 refine wp_loopT [2] [7, 8, 9, 10, 11, 12, 13, 14, 15, 16, 17, 18, 19, 20, 21, 22, 23, 24, 25, 26, 27, 28, 29, 30, 31, 32, 33, 34, 35, 36] (fun (n10 : Nat) (vs : List Value) (w' : World) => ∃ (k : Nat) (bv : Value), vs = [bv] ∧ Hp [] w w' [(some b2, 128, #[V64 (takeP h r l k).1, V64 (takeP h r l k).2]), (some b4, 128, kc8)] ∧ n10 = blocks l - k ∧ k ≤ blocks l ∧ Sl w bv (l.drop (16 * k))) (blocks l - 0) (by kernel_rfl) ?_ ?_
 ·
  simp only [ga]
  refine ⟨0, _, rfl, ?_, rfl, ?_, ?_⟩
  ·
   exact hH
  · first | omega | (omega)
  · first | omega | (exact hv)
 clear hH
 intro n10 vs11 w12 hR13 d0
 obtain ⟨k, bv, rfl, hH, hn14, hf15, hbv⟩ := hR13
 simp only [putAll, putD, List.set_cons_zero, List.set_cons_succ, Nat.zero_add, Nat.reduceAdd]
 subst hkc9
 refine wp_seq_k ?_
 intro K16 hK16
 refine wp_seq_k ?_
 intro K17 hK17
 refine wrt [.p 0, .p 1, .p 2] ?_
 refine pm ?_;simp only [nf]
 refine pp rfl rfl (pr_len_Sl (hbv.chg hH.chg) rfl Tryd.underlying29) ?_;simp only [nf]
 refine pp rfl rfl (pr_bin rfl rfl (by first | exact bin_gtr_n (n := 0)  | exact bin_gtr_i)) ?_;simp only [nf]
 refine plan_nil hH ?_
 clear hH
 intro w18 hH
 refine hK17 _ _ ?_
 (try clear hK17 K17)
 refine wp_cond_split rfl (fun hc19 => ?_) (fun hc19 => ?_)
 ·
  (try simp only [cnd] at hc19)
  refine wp_skip ?_
  refine hK16 _ _ ?_
  (try clear hK16 K16)
  refine wp_block ?_
  refine wp_seq_k ?_
  intro K20 hK20
  refine wrt [.x 0] ?_
  refine plan_alloc rfl rfl hH zc130 ?_
  clear hH
  intro b21 w22 hH
  (try simp only [nf, nh, Value.cells, arrB_set] at hH ⊢)
  refine plan_nil hH ?_
  clear hH
  intro w23 hH
  refine hK20 _ _ ?_
  (try clear hK20 K20)
  refine wp_seq_k ?_
  intro K24 hK24
  refine wrt [.p 0, .p 1, .e 2, .p 3] ?_
  refine pp rfl rfl (pr_slice_arr_all rfl Tryd.underlying130 sz5) ?_;simp only [nf]
  (try simp only [Nat.mul_one, Nat.zero_add, Nat.add_sub_cancel_left])
  refine pm ?_;simp only [nf]
  refine plan_copy 2 rfl rfl hH rfl (fun w' hH => ((hbv.chg hH.chg)).csrc) rfl rfl Tryd.underlying29 sz5 (by first | omega | (simp only [List.length_drop] at *; omega)) ?_
  clear hH
  intro w25 hH
  (try simp only [nf, nh, Value.cells, arrB_set] at hH ⊢)
  refine pa ?_;simp only [nf]
  refine plan_nil hH ?_
  clear hH
  intro w26 hH
  replace hH := hH.say 2 rfl (arr8_congr fun j hj => copy_blk l k j hj)
  simp only [List.set_cons_zero, List.set_cons_succ] at hH
  refine hK24 _ _ ?_
  (try clear hK24 K24)
  refine wp_seq_k ?_
  intro K27 hK27
  refine wrt [.p 0, .p 1, .p 2, .p 3] ?_
  refine pm (pm ?_);simp only [nf]
  refine pp rfl rfl (pr_slice_Sl_l (hbv.chg hH.chg) rfl rfl Tryd.underlying29 sz5 (by first | omega | (simp only [List.length_drop] at *; omega))) ?_;simp only [nf]
  refine pa ?_;simp only [nf]
  refine plan_nil hH ?_
  clear hH
  intro w28 hH
  refine hK27 _ _ ?_
  (try clear hK27 K27)
  refine wp_seq_k ?_
  intro K29 hK29
  refine wrt [.q 0, .q 1, .x 2, .e 3] ?_
  refine pq rfl rfl (qr_loadW rfl (hH.blk 2 rfl) Tryd.underlying130 rfl sz130 (by simp)) ?_;simp only [nf]
  refine pq rfl rfl (qr_call cf61 (fun w' hw => of_calls _ w') rfl) ?_;simp only [nf]
  refine plan_alloc rfl rfl hH zc128 ?_
  clear hH
  intro b30 w31 hH
  (try simp only [nf, nh, Value.cells, arrB_set] at hH ⊢)
  refine plan_storeW 3 rfl rfl hH rfl rfl rfl (by simp [Value.oneCell']) sz128 (by simp) (by simp) ?_
  clear hH
  intro w32 hH
  (try simp only [nf, nh, Value.cells, arrB_set] at hH ⊢)
  refine plan_nil hH ?_
  clear hH
  intro w33 hH
  refine hK29 _ _ ?_
  (try clear hK29 K29)
  refine wrp [.p 0, .p 2, .p 5, .p 7, .p 11, .p 12, .p 13, .q 1, .q 3, .p 4, .q 6, .q 8, .p 9, .p 10, .q 14, .q 15, .e 16] ?_
  refine pp rfl rfl (pr_fieldAddr 0 rfl Tryd.underlying128 rfl rfl sz45) ?_;simp only [nf]
  refine pp rfl rfl (pr_fieldAddr 0 rfl Tryd.underlying128 rfl rfl sz45) ?_;simp only [nf]
  refine pp rfl rfl (pr_fieldAddr 1 rfl Tryd.underlying128 rfl rfl sz45) ?_;simp only [nf]
  refine pp rfl rfl (pr_fieldAddr 1 rfl Tryd.underlying128 rfl rfl sz45) ?_;simp only [nf]
  refine pm ?_;simp only [nf]
  refine pp rfl rfl (pr_nilCheck rfl) ?_;simp only [nf]
  refine pp rfl rfl (pr_fieldAddr 1 rfl Tryd.underlying132 rfl rfl sz128) ?_;simp only [nf]
  refine pq rfl rfl (qr_load1 rfl Tryd.underlying45 rfl ((hH.blk 0 rfl).cell rfl)) ?_;simp only [nf]
  refine pq rfl rfl (qr_load1 rfl Tryd.underlying45 rfl ((hH.blk 3 rfl).cell rfl)) ?_;simp only [nf]
  refine pp rfl rfl (pr_bin rfl rfl (bin_xor_u64 _ _)) ?_;simp only [nf]
  refine pq rfl rfl (qr_load1 rfl Tryd.underlying45 rfl ((hH.blk 0 rfl).cell rfl)) ?_;simp only [nf]
  refine pq rfl rfl (qr_load1 rfl Tryd.underlying45 rfl ((hH.blk 3 rfl).cell rfl)) ?_;simp only [nf]
  refine pp rfl rfl (pr_bin rfl rfl (bin_xor_u64 _ _)) ?_;simp only [nf]
  refine pp rfl rfl (pr_build (by rfl) (bd128_0_1 _ _)) ?_;simp only [nf]
  refine pq rfl rfl (qr_loadE _ rfl (hH.chg.nil_blk hx) Tryd.underlying128 rfl sz128 (by simp) (ext2 _ _ _ _ rfl)) ?_;simp only [nf]
  refine pq rfl rfl (qr_call cf93 (fun w' hw => gtimes_calls (_, _) (_, _) w') rfl) ?_;simp only [nf]
  refine plan_storeW 0 rfl rfl hH rfl rfl rfl (by simp [Value.oneCell']) sz128 (by simp) (by simp) ?_
  clear hH
  intro w34 hH
  (try simp only [nf, nh, Value.cells, arrB_set] at hH ⊢)
  refine plan_nil hH ?_
  clear hH
  intro w35 hH
  (try simp only [Exit.then, Exit.inBlock, ↓reduceIte, Nat.reduceEqDiff])
  refine ⟨blocks l - (k + 1), ?_, _, rfl, by kernel_rfl, ?_⟩
  · first | omega | (unfold blocks at *; simp only [List.length_drop] at *; omega)
  simp only [ga]
  refine ⟨k + 1, _, rfl, ?_, rfl, ?_, ?_⟩
  ·
   exact hH.take 2
  · first | omega | (unfold blocks at *; simp only [List.length_drop] at *; omega)
  · first | omega | (rw [← drop_blk]; exact Sl.cutl hbv (by omega))
 ·
  (try simp only [cnd] at hc19)
  refine wp_exit ?_
  (try simp only [Exit.then, Exit.inBlock, ↓reduceIte, Nat.reduceEqDiff])
  refine hK7 _ _ ?_
  (try clear hK7 K7)
  refine wp_seq_k ?_
  intro K36 hK36
  refine wrt [.q 0, .e 1] ?_
  refine pq rfl rfl (qr_loadW rfl (hH.blk 0 rfl) Tryd.underlying128 rfl sz128 (by simp)) ?_;simp only [nf]
  refine plan_storeW 1 rfl rfl hH rfl rfl rfl (by simp [Value.oneCell']) sz128 (by simp) (by simp) ?_
  clear hH
  intro w37 hH
  (try simp only [nf, nh, Value.cells, arrB_set] at hH ⊢)
  refine plan_nil hH ?_
  clear hH
  intro w38 hH
  refine hK36 _ _ ?_
  (try clear hK36 K36)
  refine wp_ret ?_
  (try simp only [Exit.then, Exit.inBlock, ↓reduceIte, Nat.reduceEqDiff])
  refine BP.retc rfl rfl (hH.blk 1 rfl) Tryd.underlying128 rfl sz128 (by simp) ?_
  obtain rfl : k = blocks l := by unfold blocks at *; simp only [List.length_drop] at *; omega
  exact ⟨rfl, hH.chg⟩
theorem counter_calls (v : Value) (nl : List UInt8) (n : UInt8) (w : World) (hv : Sl w v nl) (hl : nl.length = 12) : Ret Tryd.prog 63 #[v, V8 n] w fun v w' => ∃ o cap cs, v = own o 16 cap ∧ Chg [] w w' ∧ OwnC o 16 cap 1 cs ((nl ++ [0, 0, 0, n]).map V8) ∧ ∀ bo, o = some bo → w.heap.size ≤ bo ∧ Blk w' bo 5 cs := by
 refine Ret.enter Tryd.func63 rfl ?_
 simp only [Tryd.ntmps63, fe, Nat.reduceAdd, Nat.reduceSub]
 have hH := Hp.start [] w
 refine wp_seq_k ?_
 intro K1 hK1
 refine wrt [.p 0] ?_
 refine pa ?_;simp only [nf]
 refine plan_nil hH ?_
 clear hH
 intro w2 hH
 refine hK1 _ _ ?_
 (try clear hK1 K1)
 refine wp_seq_k ?_
 intro K3 hK3
 refine wrt [.x 0, .p 1, .e 2, .p 3, .x 4, .e 5, .p 6] ?_
 refine plan_buildSlice rfl rfl hH Tryd.underlying29 (by rfl) (bs0 ) ?_
 clear hH
 intro b4 w5 hH
 (try simp only [nf, nh, Value.cells, arrB_set] at hH ⊢)
 refine pm ?_;simp only [nf]
 refine plan_append 0 rfl rfl hH rfl (OwnC.of_bytes rfl) (fun w' hH => ((hv.chg hH.chg)).src) rfl rfl Tryd.underlying29 Tryd.underlying29 (.inl ⟨_, rfl⟩) sz5 bz5 ze5 rfl (by first | omega | (simp <;> omega)) (by first | omega | (simp <;> omega)) ?_
 clear hH
 intro o6 cap7 cs8 w9 hO10 hH
 (try simp only [nf] at hH ⊢)
 (try simp only [nf, nh, Value.cells, arrB_set] at hH ⊢)
 try rw [← List.map_append] at hO10
 (try simp only [Nat.zero_add, List.nil_append, List.length_nil] at hO10 ⊢)
 refine pm ?_;simp only [nf]
 refine plan_buildSlice rfl rfl hH Tryd.underlying29 (by rfl) (bs4 0 0 0 _) ?_
 clear hH
 intro b11 w12 hH
 (try simp only [nf, nh, Value.cells, arrB_set] at hH ⊢)
 refine plan_append 0 rfl rfl hH rfl hO10 (fun w' hH => ((OwnC.sl hH 1 rfl (OwnC.of_bytes rfl))).src) rfl rfl Tryd.underlying29 Tryd.underlying29 (.inl ⟨_, rfl⟩) sz5 bz5 ze5 rfl (by first | omega | (simp <;> omega)) (by first | omega | (simp <;> omega)) ?_
 clear hH
 intro o13 cap14 cs15 w16 hO17 hH
 (try simp only [nf] at hH ⊢)
 (try simp only [nf, nh, Value.cells, arrB_set] at hH ⊢)
 try rw [← List.map_append] at hO17
 (try simp only [Nat.zero_add, List.nil_append, List.length_nil] at hO17 ⊢)
 refine pa ?_;simp only [nf]
 refine plan_nil hH ?_
 clear hH
 intro w18 hH
 refine hK3 _ _ ?_
 (try clear hK3 K3)
 refine wp_ret ?_
 (try simp only [Exit.then, Exit.inBlock, ↓reduceIte, Nat.reduceEqDiff])
 refine BP.ret1 rfl rfl ?_
 simp only [List.length_cons, List.length_nil, hl, Nat.reduceAdd] at *
 exact ⟨_, _, _, rfl, hH.chg, (by assumption), hH.owned 0 rfl⟩
theorem same_not (a b : Value) (al bl : List UInt8) (w : World) (hal : al.length < 9223372036854775808) (ha : Sl w a al) (hb : Sl w b bl) (hl : al.length ≠ bl.length) : Ret Tryd.prog 65 #[a, b] w fun v w' => v = BV (al == bl) ∧ Chg [] w w' := by
 refine Ret.enter Tryd.func65 rfl ?_
 simp only [Tryd.ntmps65, fe, Nat.reduceAdd, Nat.reduceSub]
 have hH := Hp.start [] w
 refine wp_seq_k ?_
 intro K1 hK1
 refine wrt [.p 0] ?_
 refine pa ?_;simp only [nf]
 refine plan_nil hH ?_
 clear hH
 intro w2 hH
 refine hK1 _ _ ?_
 (try clear hK1 K1)
 refine wp_seq_k ?_
 intro K3 hK3
 refine wp_seq_k ?_
 intro K4 hK4
 refine wrt [.p 0, .p 1, .p 2, .p 3, .p 4] ?_
 refine pm ?_;simp only [nf]
 refine pp rfl rfl (pr_len_Sl (ha.chg hH.chg) rfl Tryd.underlying29) ?_;simp only [nf]
 refine pm ?_;simp only [nf]
 refine pp rfl rfl (pr_len_Sl (hb.chg hH.chg) rfl Tryd.underlying29) ?_;simp only [nf]
 refine pp rfl rfl (pr_bin rfl rfl (by first | exact bin_neq_n  | exact bin_neq_i)) ?_;simp only [nf]
 refine plan_nil hH ?_
 clear hH
 intro w5 hH
 refine hK4 _ _ ?_
 (try clear hK4 K4)
 refine wp_cond_true (by show BV _ = _; rw [bne_iff_ne.mpr hl]) ?_
 refine wp_seq_k ?_
 intro K6 hK6
 refine wrt [.p 0] ?_
 refine pa ?_;simp only [nf]
 refine plan_nil hH ?_
 clear hH
 intro w7 hH
 refine hK6 _ _ ?_
 (try clear hK6 K6)
 refine wp_ret ?_
 (try simp only [Exit.then, Exit.inBlock, ↓reduceIte, Nat.reduceEqDiff])
 refine BP.ret1 rfl rfl ?_
 exact ⟨congrArg BV (by symm; rw [beq_eq_false_iff_ne]; rintro rfl; exact hl rfl), hH.chg⟩
theorem same_len (a b : Value) (al bl : List UInt8) (w : World) (hal : al.length < 9223372036854775808) (ha : Sl w a al) (hb : Sl w b bl) (hl : al.length = bl.length) : Ret Tryd.prog 65 #[a, b] w fun v w' => v = BV (al == bl) ∧ Chg [] w w' := by
 refine Ret.enter Tryd.func65 rfl ?_
 simp only [Tryd.ntmps65, fe, Nat.reduceAdd, Nat.reduceSub]
 have hH := Hp.start [] w
 refine wp_seq_k ?_
 intro K1 hK1
 refine wrt [.p 0] ?_
 refine pa ?_;simp only [nf]
 refine plan_nil hH ?_
 clear hH
 intro w2 hH
 refine hK1 _ _ ?_
 (try clear hK1 K1)
 refine wp_seq_k ?_
 intro K3 hK3
 refine wp_seq_k ?_
 intro K4 hK4
 refine wrt [.p 0, .p 1, .p 2, .p 3, .p 4] ?_
 refine pm ?_;simp only [nf]
 refine pp rfl rfl (pr_len_Sl (ha.chg hH.chg) rfl Tryd.underlying29) ?_;simp only [nf]
 refine pm ?_;simp only [nf]
 refine pp rfl rfl (pr_len_Sl (hb.chg hH.chg) rfl Tryd.underlying29) ?_;simp only [nf]
 refine pp rfl rfl (pr_bin rfl rfl (by first | exact bin_neq_n  | exact bin_neq_i)) ?_;simp only [nf]
 refine plan_nil hH ?_
 clear hH
 intro w5 hH
 refine hK4 _ _ ?_
 (try clear hK4 K4)
 refine wp_cond_false (by show BV _ = _; rw [hl, bne_self_eq_false]) ?_
 refine wp_skip ?_
 refine hK3 _ _ ?_
 (try clear hK3 K3)
 refine wp_seq_k ?_
 intro K6 hK6
 refine wrt [.p 0] ?_
 refine pa ?_;simp only [nf]
 refine plan_nil hH ?_
 clear hH
 intro w7 hH
 refine hK6 _ _ ?_
 (try clear hK6 K6)
 refine wp_seq_k ?_
 intro K8 hK8
 refine wp_seq_k ?_
 intro K9 hK9
 refine wrt [.p 0, .p 1, .p 2] ?_
 refine pm ?_;simp only [nf]
 refine pp rfl rfl (pr_len_Sl (ha.chg hH.chg) rfl Tryd.underlying29) ?_;simp only [nf]
 refine pk 0 ?_;simp only [nf]
 refine plan_nil hH ?_
 clear hH
 intro w10 hH
 refine hK9 _ _ ?_
 (try clear hK9 K9)
 refine wp_block ?_
 refine wp_loopT [5, 15] [6, 7, 16, 17, 18, 19, 20, 21, 22, 23, 24, 25, 26, 27, 28] (fun (n11 : Nat) (vs : List Value) (w' : World) => ∃ (i : Nat), vs = [V8 (orD al bl i), I64 (i : Nat)] ∧ Hp [] w w' [] ∧ n11 = al.length - i ∧ i ≤ al.length) (al.length - 0) (by kernel_rfl) ?_ ?_
 ·
  simp only [ga]
  refine ⟨0, rfl, ?_, rfl, ?_⟩
  ·
   exact hH
  · first | omega | (omega)
 clear hH
 intro n11 vs12 w13 hR14 d0
 obtain ⟨i, rfl, hH, hn15, hf16⟩ := hR14
 simp only [putAll, putD, List.set_cons_zero, List.set_cons_succ, Nat.zero_add, Nat.reduceAdd]
 refine wp_seq_k ?_
 intro K17 hK17
 refine wrt [.p 0] ?_
 refine pp rfl rfl (pr_bin rfl rfl (by first | exact bin_lss_n  | exact bin_lss_i)) ?_;simp only [nf]
 refine plan_nil hH ?_
 clear hH
 intro w18 hH
 refine hK17 _ _ ?_
 (try clear hK17 K17)
 refine wp_seq_k ?_
 intro K19 hK19
 refine wp_cond_split rfl (fun hc20 => ?_) (fun hc20 => ?_)
 ·
  (try simp only [cnd] at hc20)
  refine wp_skip ?_
  refine hK19 _ _ ?_
  (try clear hK19 K19)
  refine wp_seq_k ?_
  intro K21 hK21
  refine wp_block ?_
  refine wp_seq_k ?_
  intro K22 hK22
  refine wrt [.p 0, .p 1, .q 2, .p 3, .p 4] ?_
  refine pm ?_;simp only [nf]
  refine pp rfl rfl (pr_idx_Sl (ha.chg hH.chg) rfl rfl Tryd.underlying29 sz5 (by omega)) ?_;simp only [nf]
  refine pq rfl rfl (qr_load1 rfl Tryd.underlying5 rfl (Sl.cell (ha.chg hH.chg) (by omega))) ?_;simp only [nf]
  refine pa (pa ?_);simp only [nf]
  refine plan_nil hH ?_
  clear hH
  intro w23 hH
  refine hK22 _ _ ?_
  (try clear hK22 K22)
  refine wrt [.p 0, .p 1, .p 2, .p 3, .p 4, .q 5, .p 6, .p 7, .p 8] ?_
  refine pm (pm (pm (pm ?_)));simp only [nf]
  refine pp rfl rfl (pr_idx_Sl (hb.chg hH.chg) rfl rfl Tryd.underlying29 sz5 (by omega)) ?_;simp only [nf]
  refine pq rfl rfl (qr_load1 rfl Tryd.underlying5 rfl (Sl.cell (hb.chg hH.chg) (by omega))) ?_;simp only [nf]
  refine pp rfl rfl (pr_bin rfl rfl (bin_xor_u8 _ _)) ?_;simp only [nf]
  refine pp rfl rfl (pr_bin rfl rfl (bin_or_u8 _ _)) ?_;simp only [nf]
  refine pa ?_;simp only [nf]
  refine plan_nil hH ?_
  clear hH
  intro w24 hH
  refine hK21 _ _ ?_
  (try clear hK21 K21)
  refine wrt [.p 0, .p 1] ?_
  refine pp rfl rfl (pr_bin rfl rfl (by first | exact bin_add_n (n := 1) (by omega) | exact bin_add_i (by omega) (by omega))) ?_;simp only [nf]
  refine pm ?_;simp only [nf]
  refine plan_nil hH ?_
  clear hH
  intro w25 hH
  (try simp only [Exit.then, Exit.inBlock, ↓reduceIte, Nat.reduceEqDiff])
  refine ⟨al.length - (i + 1), ?_, _, rfl, by kernel_rfl, ?_⟩
  · first | omega | (omega)
  simp only [ga]
  refine ⟨i + 1, rfl, ?_, rfl, ?_⟩
  ·
   exact hH
  · first | omega | (omega)
 ·
  (try simp only [cnd] at hc20)
  refine wp_exit ?_
  (try simp only [Exit.then, Exit.inBlock, ↓reduceIte, Nat.reduceEqDiff])
  refine hK8 _ _ ?_
  (try clear hK8 K8)
  refine wp_seq_k ?_
  intro K26 hK26
  refine wrt [.p 0, .p 1, .p 2] ?_
  refine pm ?_;simp only [nf]
  refine pp rfl rfl (pr_bin rfl rfl (bin_eql_u8 _ 0)) ?_;simp only [nf]
  refine pa ?_;simp only [nf]
  refine plan_nil hH ?_
  clear hH
  intro w27 hH
  refine hK26 _ _ ?_
  (try clear hK26 K26)
  refine wp_ret ?_
  (try simp only [Exit.then, Exit.inBlock, ↓reduceIte, Nat.reduceEqDiff])
  refine BP.ret1 rfl rfl ?_
  obtain rfl : i = al.length := by omega
  exact ⟨congrArg BV (same_is hl), hH.chg⟩
theorem same_calls (a b : Value) (al bl : List UInt8) (w : World) (hal : al.length < 9223372036854775808) (ha : Sl w a al) (hb : Sl w b bl) : Ret Tryd.prog 65 #[a, b] w fun v w' => v = BV (al == bl) ∧ Chg [] w w' := by
  by_cases hl : al.length = bl.length
  · exact same_len a b al bl w hal ha hb hl
  · exact same_not a b al bl w hal ha hb hl
theorem gnew_calls (key : Value) (l : List UInt8) (w : World) (hk : Sl w key l) (hl : l.length = 16) : Ret Tryd.prog 29 #[key] w fun v w' =>
    ∃ bc bx, v = .tuple #[PT bx 0, I64 (0 : Nat)] ∧ Chg [] w w' ∧ w.heap.size ≤ bc ∧ Blk w' bc 163 (arr8 176 (kexp fun i => l.getD i 0)) ∧ w.heap.size ≤ bx ∧ Blk w' bx 132 #[PT bc 0, V64 (hP (kexp fun i => l.getD i 0)).1, V64 (hP (kexp fun i => l.getD i 0)).2] ∧ bc ≠ bx := by
 refine Ret.enter Tryd.func29 rfl ?_
 simp only [Tryd.ntmps29, fe, Nat.reduceAdd, Nat.reduceSub]
 have hH := Hp.start [] w
 refine wp_seq_k ?_
 intro K1 hK1
 refine wrt [.p 0, .p 1] ?_
 refine pa (pka 0 ?_);simp only [nf]
 refine plan_nil hH ?_
 clear hH
 intro w2 hH
 refine hK1 _ _ ?_
 (try clear hK1 K1)
 refine wp_seq_k ?_
 intro K3 hK3
 refine wrt [.p 0, .x 1, .p 2, .p 3, .p 4, .p 5, .p 6] ?_
 refine pm ?_;simp only [nf]
 refine plan_callx rfl rfl hH cf59 (fun w' hH => new_calls _ _ w' (hk.chg hH.chg) hl) rfl (fun _ _ _ h => h.choose_spec.2.1) ?_
 clear hH
 intro w4 v5 w6 hH hp7
 obtain ⟨b8, rfl, hg, hfr, hbk⟩ := hp7
 replace hH := hH.callnew hg hbk hfr
 clear hg hfr hbk
 (try simp only [nf, nh, Value.cells, arrB_set] at hH ⊢)
 (try simp only [nf])
 refine pm ?_;simp only [nf]
 refine pp rfl rfl (pr_extract rfl rfl) ?_;simp only [nf]
 refine pp rfl rfl (pr_extract rfl rfl) ?_;simp only [nf]
 refine pa (pa ?_);simp only [nf]
 refine plan_nil hH ?_
 clear hH
 intro w9 hH
 refine hK3 _ _ ?_
 (try clear hK3 K3)
 refine wp_seq_k ?_
 intro K10 hK10
 refine wp_seq_k ?_
 intro K11 hK11
 refine wrt [.p 0, .p 1] ?_
 refine pm ?_;simp only [nf]
 refine pp rfl rfl (pr_bin rfl rfl (by first | exact bin_neq_n (n := 0)  | exact bin_neq_i)) ?_;simp only [nf]
 refine plan_nil hH ?_
 clear hH
 intro w12 hH
 refine hK11 _ _ ?_
 (try clear hK11 K11)
 refine wp_cond_false rfl ?_
 refine wp_skip ?_
 refine hK10 _ _ ?_
 (try clear hK10 K10)
 refine wp_seq_k ?_
 intro K13 hK13
 refine wrt [.p 0, .x 1, .x 2, .p 3, .p 4, .p 5, .p 6, .p 7] ?_
 refine pm ?_;simp only [nf]
 refine plan_make (n := 16) (c := 16) rfl rfl hH rfl rfl Tryd.underlying29 sz5 bz5 ze5 rfl (by omega) (by omega) (by omega) ?_
 clear hH
 intro b14 w15 hH
 (try simp only [nf] at hH ⊢)
 rw [made_arr8] at hH
 (try simp only [nf, nh, Value.cells, arrB_set] at hH ⊢)
 refine plan_callx rfl rfl hH cf60 (fun w' hH => block_calls _ _ _ _ w' (hH.blk 0 rfl) (OwnC.sl hH 1 rfl OwnC.made) (by simp)) rfl (fun _ _ _ h => h.choose_spec.2.1) ?_
 clear hH
 intro w16 v17 w18 hH hp19
 obtain ⟨b20, rfl, hg, hfr, hbk⟩ := hp19
 replace hH := hH.callnew hg hbk hfr
 clear hg hfr hbk
 (try simp only [nf, nh, Value.cells, arrB_set] at hH ⊢)
 (try simp only [nf])
 refine pm ?_;simp only [nf]
 refine pp rfl rfl (pr_extract rfl rfl) ?_;simp only [nf]
 refine pp rfl rfl (pr_extract rfl rfl) ?_;simp only [nf]
 refine pa (pa ?_);simp only [nf]
 refine plan_nil hH ?_
 clear hH
 intro w21 hH
 refine hK13 _ _ ?_
 (try clear hK13 K13)
 refine wp_seq_k ?_
 intro K22 hK22
 refine wp_seq_k ?_
 intro K23 hK23
 refine wrt [.p 0, .p 1] ?_
 refine pm ?_;simp only [nf]
 refine pp rfl rfl (pr_bin rfl rfl (by first | exact bin_neq_n (n := 0)  | exact bin_neq_i)) ?_;simp only [nf]
 refine plan_nil hH ?_
 clear hH
 intro w24 hH
 refine hK23 _ _ ?_
 (try clear hK23 K23)
 refine wp_cond_false rfl ?_
 refine wp_skip ?_
 refine hK22 _ _ ?_
 (try clear hK22 K22)
 refine wp_seq_k ?_
 intro K25 hK25
 refine wrt [.p 0, .p 1, .p 2, .q 3, .q 4, .p 5, .x 6, .p 7, .p 8] ?_
 refine pm (pm ?_);simp only [nf]
 refine pp rfl rfl (pr_s2ap rfl Tryd.underlying130 (by omega)) ?_;simp only [nf]
 refine pq rfl rfl (qr_loadW rfl (hH.blk 2 rfl) Tryd.underlying130 rfl sz130 (by simp)) ?_;simp only [nf]
 refine pq rfl rfl (qr_call cf61 (fun w' hw => of_calls _ w') rfl) ?_;simp only [nf]
 refine pp rfl rfl (pr_build (by rfl) (bd132_0_1 _ _ _)) ?_;simp only [nf]
 refine plan_box rfl rfl hH rfl ?_
 clear hH
 intro b26 w27 hH
 (try simp only [nf, nh, Value.cells, arrB_set] at hH ⊢)
 refine pa (pka 0 ?_);simp only [nf]
 refine plan_nil hH ?_
 clear hH
 intro w28 hH
 refine hK25 _ _ ?_
 (try clear hK25 K25)
 refine wp_ret ?_
 (try simp only [Exit.then, Exit.inBlock, ↓reduceIte, Nat.reduceEqDiff])
 refine BP.ret2 rfl rfl rfl ?_
 rw [hP_is] at hH
 exact ⟨_, _, rfl, hH.chg, (hH.mine 0 rfl).resolve_right (by simp), hH.blk 0 rfl, (hH.mine 3 rfl).resolve_right (by simp), hH.blk 3 rfl, hH.other (i := 3) rfl (j := 0) rfl (by decide) rfl⟩
theorem seal_calls (bx bc : Nat) (kf : Nat → UInt8) (h : P2) (nv av cv : Value) (nl al cl : List UInt8) (w : World) (hx : Blk w bx 132 #[PT bc 0, V64 h.1, V64 h.2]) (hc : Blk w bc 163 (arr8 176 kf)) (hn : Sl w nv nl) (hl : nl.length = 12) (ha : Sl w av al) (hv : Sl w cv cl) :
    Ret Tryd.prog 64 #[PT bx 0, nv, av, cv] w fun v w' => ∃ o cap cs, v = own o 16 cap ∧ Chg [] w w' ∧ OwnC o 16 cap 1 cs ((sealL kf h nl al cl).map V8) ∧ ∀ bo, o = some bo → w.heap.size ≤ bo ∧ Blk w' bo 5 cs := by
 refine Ret.enter Tryd.func64 rfl ?_
 simp only [Tryd.ntmps64, fe, Nat.reduceAdd, Nat.reduceSub]
 have hH := Hp.start [] w
 refine wp_seq_k ?_
 intro K1 hK1
 refine wrt [.p 0] ?_
 refine pa ?_;simp only [nf]
 refine plan_nil hH ?_
 clear hH
 intro w2 hH
 refine hK1 _ _ ?_
 (try clear hK1 K1)
 refine wp_seq_k ?_
 intro K3 hK3
 refine wrt [.p 0, .p 1, .p 2, .p 3, .q 4, .p 5, .q 6, .x 7, .e 8] ?_
 refine pm (pm ?_);simp only [nf]
 refine pp rfl rfl (pr_build (by rfl) (bd128_ )) ?_;simp only [nf]
 refine pm ?_;simp only [nf]
 refine pq rfl rfl (qr_call cf92 (fun w' hw => take_calls _ _ _ _ (0, 0) _ w' (hw.nil_blk (hH.chg.nil_blk hx)) ((ha.chg hH.chg).chg hw)) rfl) ?_;simp only [nf]
 refine pm ?_;simp only [nf]
 refine pq rfl rfl (qr_call cf92 (fun w' hw => take_calls _ _ _ _ _ _ w' (hw.nil_blk (hH.chg.nil_blk hx)) ((hv.chg hH.chg).chg hw)) rfl) ?_;simp only [nf]
 refine plan_alloc rfl rfl hH zc128 ?_
 clear hH
 intro b4 w5 hH
 (try simp only [nf, nh, Value.cells, arrB_set] at hH ⊢)
 refine plan_storeW 0 rfl rfl hH rfl rfl rfl (by simp [Value.oneCell']) sz128 (by simp) (by simp) ?_
 clear hH
 intro w6 hH
 (try simp only [nf, nh, Value.cells, arrB_set] at hH ⊢)
 refine plan_nil hH ?_
 clear hH
 intro w7 hH
 refine hK3 _ _ ?_
 (try clear hK3 K3)
 refine wp_seq_k ?_
 intro K8 hK8
 refine wrp [.p 0, .p 2, .p 3, .p 4, .p 5, .p 7, .p 9, .p 10, .p 11, .p 12, .p 15, .p 16, .p 17, .q 1, .p 6, .q 8, .p 13, .p 14, .q 18, .q 19, .e 20] ?_
 refine pp rfl rfl (pr_fieldAddr 0 rfl Tryd.underlying128 rfl rfl sz45) ?_;simp only [nf]
 refine pm ?_;simp only [nf]
 refine pp rfl rfl (pr_len_Sl (ha.chg hH.chg) rfl Tryd.underlying29) ?_;simp only [nf]
 refine pp rfl rfl (pr_conv rfl (by first | exact cnv_n_u64 Tryd.underlying3 Tryd.underlying45 | exact cnv_i_u64 Tryd.underlying3 Tryd.underlying45)) ?_;simp only [nf]
 refine pp rfl rfl (pr_bin rfl rfl (bin_shlc_u64 3 3 (by decide) rfl _)) ?_;simp only [nf]
 refine pp rfl rfl (pr_fieldAddr 1 rfl Tryd.underlying128 rfl rfl sz45) ?_;simp only [nf]
 refine pm ?_;simp only [nf]
 refine pp rfl rfl (pr_len_Sl (hv.chg hH.chg) rfl Tryd.underlying29) ?_;simp only [nf]
 refine pp rfl rfl (pr_conv rfl (by first | exact cnv_n_u64 Tryd.underlying3 Tryd.underlying45 | exact cnv_i_u64 Tryd.underlying3 Tryd.underlying45)) ?_;simp only [nf]
 refine pp rfl rfl (pr_bin rfl rfl (bin_shlc_u64 3 3 (by decide) rfl _)) ?_;simp only [nf]
 refine pm ?_;simp only [nf]
 refine pp rfl rfl (pr_nilCheck rfl) ?_;simp only [nf]
 refine pp rfl rfl (pr_fieldAddr 1 rfl Tryd.underlying132 rfl rfl sz128) ?_;simp only [nf]
 refine pq rfl rfl (qr_load1 rfl Tryd.underlying45 rfl ((hH.blk 0 rfl).cell rfl)) ?_;simp only [nf]
 refine pp rfl rfl (pr_bin rfl rfl (bin_xor_u64 _ _)) ?_;simp only [nf]
 refine pq rfl rfl (qr_load1 rfl Tryd.underlying45 rfl ((hH.blk 0 rfl).cell rfl)) ?_;simp only [nf]
 refine pp rfl rfl (pr_bin rfl rfl (bin_xor_u64 _ _)) ?_;simp only [nf]
 refine pp rfl rfl (pr_build (by rfl) (bd128_0_1 _ _)) ?_;simp only [nf]
 refine pq rfl rfl (qr_loadE _ rfl (hH.chg.nil_blk hx) Tryd.underlying128 rfl sz128 (by simp) (ext2 _ _ _ _ rfl)) ?_;simp only [nf]
 refine pq rfl rfl (qr_call cf93 (fun w' hw => gtimes_calls (_, _) (_, _) w') rfl) ?_;simp only [nf]
 refine plan_storeW 0 rfl rfl hH rfl rfl rfl (by simp [Value.oneCell']) sz128 (by simp) (by simp) ?_
 clear hH
 intro w9 hH
 (try simp only [nf, nh, Value.cells, arrB_set] at hH ⊢)
 refine plan_nil hH ?_
 clear hH
 intro w10 hH
 refine hK8 _ _ ?_
 (try clear hK8 K8)
 refine wp_seq_k ?_
 intro K11 hK11
 refine wrt [.q 0, .q 1, .x 2, .e 3] ?_
 refine pq rfl rfl (qr_loadW rfl (hH.blk 0 rfl) Tryd.underlying128 rfl sz128 (by simp)) ?_;simp only [nf]
 refine pq rfl rfl (qr_call cf94 (fun w' hw => bytes_calls _ w') rfl) ?_;simp only [nf]
 refine plan_alloc rfl rfl hH zc130 ?_
 clear hH
 intro b12 w13 hH
 (try simp only [nf, nh, Value.cells, arrB_set] at hH ⊢)
 refine plan_storeW 1 rfl rfl hH rfl rfl rfl one_arr8 sz130 (by simp) (by simp) ?_
 clear hH
 intro w14 hH
 (try simp only [nf, nh, Value.cells, arrB_set] at hH ⊢)
 refine plan_nil hH ?_
 clear hH
 intro w15 hH
 refine hK11 _ _ ?_
 (try clear hK11 K11)
 refine wp_seq_k ?_
 intro K16 hK16
 refine wrp [.p 0, .p 1, .p 2, .p 4, .p 6, .q 3, .x 5, .x 7, .p 8, .p 9, .p 10, .p 11, .p 12] ?_
 refine pm ?_;simp only [nf]
 refine pp rfl rfl (pr_nilCheck rfl) ?_;simp only [nf]
 refine pp rfl rfl (pr_fieldAddr 0 rfl Tryd.underlying132 rfl rfl sz123) ?_;simp only [nf]
 refine pm ?_;simp only [nf]
 refine pp rfl rfl (pr_slice_arr_all rfl Tryd.underlying130 sz5) ?_;simp only [nf]
 (try simp only [Nat.mul_one, Nat.zero_add, Nat.add_sub_cancel_left])
 refine pq rfl rfl (qr_load1 rfl Tryd.underlying123 rfl ((hH.chg.nil_blk hx).cell rfl)) ?_;simp only [nf]
 refine plan_callx rfl rfl hH cf63 (fun w' hH => counter_calls _ _ 1 w' (hn.chg hH.chg) hl) rfl (fun _ _ _ h => by obtain ⟨_, _, _, _, hg, _⟩ := h; exact hg) ?_
 clear hH
 intro w17 v18 w19 hH hp20
 obtain ⟨o21, cap22, cs23, rfl, hg, hO24, hfr⟩ := hp20
 replace hH := hH.callown hg hfr
 clear hg hfr
 (try simp only [nf, nh, Value.cells, arrB_set] at hH ⊢)
 (try simp only [nf])
 refine plan_callx rfl rfl hH cf62 (fun w' hH => stream_calls _ _ (gctr nl 1) _ _ 0 _ _ w' (hH.chg.nil_blk hc) (OwnC.sl hH 2 rfl hO24) (by simp [hl]) (fun i hi => rfl) (Sl.of_arr8 (hH.blk 1 rfl) (by omega) (by omega)) (by omega) (by first | omega | (simp <;> omega))) rfl (fun _ _ _ h => by obtain ⟨_, _, _, _, hg, _⟩ := h; exact hg) ?_
 clear hH
 intro w25 v26 w27 hH hp28
 obtain ⟨o29, cap30, cs31, rfl, hg, hO32, hfr⟩ := hp28
 replace hH := hH.callown hg hfr
 clear hg hfr
 (try simp only [nf, nh, Value.cells, arrB_set] at hH ⊢)
 (try simp only [nf])
 refine pm ?_;simp only [nf]
 refine pp rfl rfl (pr_extract rfl rfl) ?_;simp only [nf]
 refine pp rfl rfl (pr_extract rfl rfl) ?_;simp only [nf]
 refine pa (pa ?_);simp only [nf]
 refine plan_nil hH ?_
 clear hH
 intro w33 hH
 refine hK16 _ _ ?_
 (try clear hK16 K16)
 refine wp_seq_k ?_
 intro K34 hK34
 refine wrt [.p 0, .p 1] ?_
 refine pm (pa ?_);simp only [nf]
 refine plan_nil hH ?_
 clear hH
 intro w35 hH
 refine hK34 _ _ ?_
 (try clear hK34 K34)
 refine wp_ret ?_
 (try simp only [Exit.then, Exit.inBlock, ↓reduceIte, Nat.reduceEqDiff])
 refine BP.ret1 rfl rfl ?_
 simp only [List.length_map, List.length_range] at *
 exact ⟨_, _, _, rfl, hH.chg, (by assumption), hH.owned 3 rfl⟩
theorem Seal_calls (bx bc : Nat) (kf : Nat → UInt8) (h : P2) (nv av bv : Value) (nl al bl : List UInt8) (w : World) (hx : Blk w bx 132 #[PT bc 0, V64 h.1, V64 h.2]) (hc : Blk w bc 163 (arr8 176 kf)) (hn : Sl w nv nl) (hl : nl.length = 12) (ha : Sl w av al) (hb : Sl w bv bl) (hbl : bl.length ≤ 100000000000000) :
    Ret Tryd.prog 30 #[PT bx 0, nv, av, bv] w fun v w' => ∃ o cap cs, v = .tuple #[own o (bl.length + 16) cap, I64 (0 : Nat)] ∧ Chg [] w w' ∧ OwnC o (bl.length + 16) cap 1 cs ((sealedL kf h nl al bl).map V8) ∧ ∀ bo, o = some bo → w.heap.size ≤ bo ∧ Blk w' bo 5 cs := by
 refine Ret.enter Tryd.func30 rfl ?_
 simp only [Tryd.ntmps30, fe, Nat.reduceAdd, Nat.reduceSub]
 have hH := Hp.start [] w
 refine wp_seq_k ?_
 intro K1 hK1
 refine wrt [.p 0, .p 1] ?_
 refine pa (pka 0 ?_);simp only [nf]
 refine plan_nil hH ?_
 clear hH
 intro w2 hH
 refine hK1 _ _ ?_
 (try clear hK1 K1)
 refine wp_seq_k ?_
 intro K3 hK3
 refine wp_seq_k ?_
 intro K4 hK4
 refine wrt [.p 0, .p 1, .p 2, .p 3, .p 4, .p 5, .p 6] ?_
 refine pm ?_;simp only [nf]
 refine pp rfl rfl (pr_bin rfl rfl (bin_eql_pn Tryd.underlying79)) ?_;simp only [nf]
 refine plan_p (v := BV false) rfl rfl (pr_move_v rfl) ?_
 (try simp only [nf])
 refine pp rfl rfl pr_move ?_;simp only [nf]
 refine pp rfl rfl (pr_len_Sl (hn.chg hH.chg) rfl Tryd.underlying29) ?_;simp only [nf]
 refine pp rfl rfl (pr_bin rfl rfl (by first | exact bin_neq_n (n := 12)  | exact bin_neq_i)) ?_;simp only [nf]
 refine pp rfl rfl (pr_pick_f rfl) ?_;simp only [nf]
 refine plan_nil hH ?_
 clear hH
 intro w5 hH
 refine hK4 _ _ ?_
 (try clear hK4 K4)
 refine wp_cond_false (by show BV _ = _; rw [hl]; rfl) ?_
 refine wp_skip ?_
 refine hK3 _ _ ?_
 (try clear hK3 K3)
 refine wp_seq_k ?_
 intro K6 hK6
 refine wrp [.p 0, .p 1, .p 2, .p 4, .p 6, .q 3, .x 5, .x 7, .p 8, .p 9, .p 10, .p 11, .p 12] ?_
 refine pm ?_;simp only [nf]
 refine pp rfl rfl (pr_nilCheck rfl) ?_;simp only [nf]
 refine pp rfl rfl (pr_fieldAddr 0 rfl Tryd.underlying132 rfl rfl sz123) ?_;simp only [nf]
 refine pm (pm ?_);simp only [nf]
 refine pq rfl rfl (qr_load1 rfl Tryd.underlying123 rfl ((hH.chg.nil_blk hx).cell rfl)) ?_;simp only [nf]
 refine plan_callx rfl rfl hH cf63 (fun w' hH => counter_calls _ _ 2 w' (hn.chg hH.chg) hl) rfl (fun _ _ _ h => by obtain ⟨_, _, _, _, hg, _⟩ := h; exact hg) ?_
 clear hH
 intro w7 v8 w9 hH hp10
 obtain ⟨o11, cap12, cs13, rfl, hg, hO14, hfr⟩ := hp10
 replace hH := hH.callown hg hfr
 clear hg hfr
 (try simp only [nf, nh, Value.cells, arrB_set] at hH ⊢)
 (try simp only [nf])
 refine plan_callx rfl rfl hH cf62 (fun w' hH => stream_calls _ _ (gctr nl 2) _ _ 0 _ _ w' (hH.chg.nil_blk hc) (OwnC.sl hH 0 rfl hO14) (by simp [hl]) (fun i hi => rfl) (hb.chg hH.chg) (by omega) (by first | omega | (simp <;> omega))) rfl (fun _ _ _ h => by obtain ⟨_, _, _, _, hg, _⟩ := h; exact hg) ?_
 clear hH
 intro w15 v16 w17 hH hp18
 obtain ⟨o19, cap20, cs21, rfl, hg, hO22, hfr⟩ := hp18
 replace hH := hH.callown hg hfr
 clear hg hfr
 (try simp only [nf, nh, Value.cells, arrB_set] at hH ⊢)
 (try simp only [nf])
 refine pm ?_;simp only [nf]
 refine pp rfl rfl (pr_extract rfl rfl) ?_;simp only [nf]
 refine pp rfl rfl (pr_extract rfl rfl) ?_;simp only [nf]
 refine pa (pa ?_);simp only [nf]
 refine plan_nil hH ?_
 clear hH
 intro w23 hH
 refine hK6 _ _ ?_
 (try clear hK6 K6)
 refine wp_seq_k ?_
 intro K24 hK24
 refine wp_seq_k ?_
 intro K25 hK25
 refine wrt [.p 0, .p 1] ?_
 refine pm ?_;simp only [nf]
 refine pp rfl rfl (pr_bin rfl rfl (by first | exact bin_neq_n (n := 0)  | exact bin_neq_i)) ?_;simp only [nf]
 refine plan_nil hH ?_
 clear hH
 intro w26 hH
 refine hK25 _ _ ?_
 (try clear hK25 K25)
 refine wp_cond_false rfl ?_
 refine wp_skip ?_
 refine hK24 _ _ ?_
 (try clear hK24 K24)
 refine wp_seq_k ?_
 intro K27 hK27
 refine wrt [.p 0, .p 1, .p 2, .p 3, .p 4, .x 5, .e 6, .p 7, .p 8] ?_
 refine pm (pm (pm (pm (pm ?_))));simp only [nf]
 refine plan_callx rfl rfl hH cf64 (fun w' hH => seal_calls _ _ _ _ _ _ _ _ _ _ w' (hH.chg.nil_blk hx) (hH.chg.nil_blk hc) (hn.chg hH.chg) hl (ha.chg hH.chg) (OwnC.sl hH 1 rfl hO22)) rfl (fun _ _ _ h => by obtain ⟨_, _, _, _, hg, _⟩ := h; exact hg) ?_
 clear hH
 intro w28 v29 w30 hH hp31
 obtain ⟨o32, cap33, cs34, rfl, hg, hO35, hfr⟩ := hp31
 replace hH := hH.callown hg hfr
 clear hg hfr
 (try simp only [nf, nh, Value.cells, arrB_set] at hH ⊢)
 (try simp only [nf])
 refine plan_append 1 rfl rfl hH rfl hO22 (fun w' hH => ((OwnC.sl hH 2 rfl hO35)).src) rfl rfl Tryd.underlying29 Tryd.underlying29 (.inl ⟨_, rfl⟩) sz5 bz5 ze5 rfl (by first | omega | (simp only [sealL_len, strm_len]; omega)) (by first | omega | (simp only [sealL_len, strm_len]; omega)) ?_
 clear hH
 intro o36 cap37 cs38 w39 hO40 hH
 (try simp only [nf] at hH ⊢)
 (try simp only [nf, nh, Value.cells, arrB_set] at hH ⊢)
 try rw [← List.map_append] at hO40
 (try simp only [Nat.zero_add, List.nil_append, List.length_nil] at hO40 ⊢)
 refine pa (pka 0 ?_);simp only [nf]
 refine plan_nil hH ?_
 clear hH
 intro w41 hH
 refine hK27 _ _ ?_
 (try clear hK27 K27)
 refine wp_ret ?_
 (try simp only [Exit.then, Exit.inBlock, ↓reduceIte, Nat.reduceEqDiff])
 refine BP.ret2 rfl rfl rfl ?_
 exact ⟨_, _, _, rfl, hH.chg, (by assumption), hH.owned 1 rfl⟩
theorem Open_wrong (bx bc : Nat) (kf : Nat → UInt8) (h : P2) (nv av bv : Value) (nl al bl : List UInt8) (w : World) (hx : Blk w bx 132 #[PT bc 0, V64 h.1, V64 h.2]) (hc : Blk w bc 163 (arr8 176 kf)) (hn : Sl w nv nl) (hl : nl.length = 12) (ha : Sl w av al) (hb : Sl w bv bl) (hbl : bl.length ≤ 140737488355328) (h16 : 16 ≤ bl.length) (hne : sealL kf h nl al (bl.take (bl.length - 16)) ≠ bl.drop (bl.length - 16)) :
    Ret Tryd.prog 36 #[PT bx 0, nv, av, bv] w fun v w' => v = .tuple #[.slice none 0 0, I64 (4 : Nat)] ∧ Chg [] w w' := by
 refine Ret.enter Tryd.func36 rfl ?_
 simp only [Tryd.ntmps36, fe, Nat.reduceAdd, Nat.reduceSub]
 have hH := Hp.start [] w
 refine wp_seq_k ?_
 intro K1 hK1
 refine wrt [.p 0, .p 1] ?_
 refine pa (pka 0 ?_);simp only [nf]
 refine plan_nil hH ?_
 clear hH
 intro w2 hH
 refine hK1 _ _ ?_
 (try clear hK1 K1)
 refine wp_seq_k ?_
 intro K3 hK3
 refine wrt [.p 0, .p 1, .p 2, .p 3] ?_
 refine pm ?_;simp only [nf]
 refine pp rfl rfl (pr_len_Sl (hb.chg hH.chg) rfl Tryd.underlying29) ?_;simp only [nf]
 refine pp rfl rfl (pr_bin rfl rfl (by first | exact bin_sub_n (n := 16) (by omega) (by omega) | exact bin_sub_i (by omega) (by omega))) ?_;simp only [nf]
 refine pa ?_;simp only [nf]
 refine plan_nil hH ?_
 clear hH
 intro w4 hH
 refine hK3 _ _ ?_
 (try clear hK3 K3)
 refine wp_seq_k ?_
 intro K5 hK5
 refine wp_block ?_
 refine wp_seq_k ?_
 intro K6 hK6
 refine wrt [.p 0, .p 1, .p 2, .p 3, .p 4, .p 5, .p 6, .p 7] ?_
 refine pm ?_;simp only [nf]
 refine pp rfl rfl (pr_bin rfl rfl (bin_eql_pn Tryd.underlying79)) ?_;simp only [nf]
 refine plan_p (v := BV false) rfl rfl (pr_move_v rfl) ?_
 (try simp only [nf])
 refine pp rfl rfl pr_move ?_;simp only [nf]
 refine pp rfl rfl (pr_len_Sl (hn.chg hH.chg) rfl Tryd.underlying29) ?_;simp only [nf]
 refine pp rfl rfl (pr_bin rfl rfl (by first | exact bin_neq_n (n := 12)  | exact bin_neq_i)) ?_;simp only [nf]
 refine pp rfl rfl (pr_pick_f rfl) ?_;simp only [nf]
 refine pa ?_;simp only [nf]
 refine plan_nil hH ?_
 clear hH
 intro w7 hH
 refine hK6 _ _ ?_
 (try clear hK6 K6)
 refine wp_cond_false (by show BV _ = _; rw [hl]; rfl) ?_
 refine wp_seq_k ?_
 intro K8 hK8
 refine wrt [.p 0, .p 1, .p 2] ?_
 refine pm ?_;simp only [nf]
 refine pp rfl rfl (pr_bin rfl rfl (by first | exact bin_lss_n (n := 0)  | exact bin_lss_i)) ?_;simp only [nf]
 refine pa ?_;simp only [nf]
 refine plan_nil hH ?_
 clear hH
 intro w9 hH
 refine hK8 _ _ ?_
 (try clear hK8 K8)
 refine wp_cond_false (by show BV _ = _; exact congrArg BV (decide_eq_false (by omega))) ?_
 refine wp_seq_k ?_
 intro K10 hK10
 refine wrp [.p 0, .p 1, .p 2, .p 3, .p 4, .p 5, .p 7, .p 8, .p 9, .x 6, .q 10, .p 11, .p 12] ?_
 refine pm (pm (pm (pm (pm ?_))));simp only [nf]
 refine pp rfl rfl (pr_slice_Sl_h (hb.chg hH.chg) rfl rfl Tryd.underlying29 sz5 (by omega)) ?_;simp only [nf]
 refine pm (pm ?_);simp only [nf]
 refine pp rfl rfl (pr_slice_Sl_l (hb.chg hH.chg) rfl rfl Tryd.underlying29 sz5 (by omega)) ?_;simp only [nf]
 refine plan_callx rfl rfl hH cf64 (fun w' hH => seal_calls _ _ _ _ _ _ _ _ _ _ w' (hH.chg.nil_blk hx) (hH.chg.nil_blk hc) (hn.chg hH.chg) hl (ha.chg hH.chg) (Sl.cuth (hb.chg hH.chg) (by omega))) rfl (fun _ _ _ h => by obtain ⟨_, _, _, _, hg, _⟩ := h; exact hg) ?_
 clear hH
 intro w11 v12 w13 hH hp14
 obtain ⟨o15, cap16, cs17, rfl, hg, hO18, hfr⟩ := hp14
 replace hH := hH.callown hg hfr
 clear hg hfr
 (try simp only [nf, nh, Value.cells, arrB_set] at hH ⊢)
 (try simp only [nf])
 refine pq rfl rfl (qr_call cf65 (fun w' hw => same_calls _ _ _ _ w' (by first | omega | (simp [sealL_len] <;> omega)) ((OwnC.sl hH 0 rfl hO18).chg hw) ((Sl.cutl (hb.chg hH.chg) (by omega)).chg hw)) rfl) ?_;simp only [nf]
 refine pp rfl rfl (pr_not rfl) ?_;simp only [nf]
 refine pa ?_;simp only [nf]
 refine plan_nil hH ?_
 clear hH
 intro w19 hH
 refine hK10 _ _ ?_
 (try clear hK10 K10)
 refine wp_cond_true (by show BV (!_) = _; rw [beq_eq_false_iff_ne.mpr hne]; rfl) ?_
 refine wp_seq_k ?_
 intro K20 hK20
 refine wrt [.p 0, .p 1] ?_
 refine pa (pka 4 ?_);simp only [nf]
 refine plan_nil hH ?_
 clear hH
 intro w21 hH
 refine hK20 _ _ ?_
 (try clear hK20 K20)
 refine wp_ret ?_
 (try simp only [Exit.then, Exit.inBlock, ↓reduceIte, Nat.reduceEqDiff])
 refine BP.ret2 rfl rfl rfl ?_
 exact ⟨rfl, hH.chg⟩
theorem Open_calls (bx bc : Nat) (kf : Nat → UInt8) (h : P2) (nv av bv : Value) (nl al bl : List UInt8) (w : World) (hx : Blk w bx 132 #[PT bc 0, V64 h.1, V64 h.2]) (hc : Blk w bc 163 (arr8 176 kf)) (hn : Sl w nv nl) (hl : nl.length = 12) (ha : Sl w av al) (hb : Sl w bv bl) (hbl : bl.length ≤ 140737488355328) (h16 : 16 ≤ bl.length) (he : sealL kf h nl al (bl.take (bl.length - 16)) = bl.drop (bl.length - 16)) :
    Ret Tryd.prog 36 #[PT bx 0, nv, av, bv] w fun v w' => ∃ o cap cs, v = .tuple #[own o (bl.length - 16) cap, I64 (0 : Nat)] ∧ Chg [] w w' ∧ OwnC o (bl.length - 16) cap 1 cs ((hidL kf nl (bl.take (bl.length - 16))).map V8) ∧ ∀ bo, o = some bo → w.heap.size ≤ bo ∧ Blk w' bo 5 cs := by
 refine Ret.enter Tryd.func36 rfl ?_
 simp only [Tryd.ntmps36, fe, Nat.reduceAdd, Nat.reduceSub]
 have hH := Hp.start [] w
 refine wp_seq_k ?_
 intro K1 hK1
 refine wrt [.p 0, .p 1] ?_
 refine pa (pka 0 ?_);simp only [nf]
 refine plan_nil hH ?_
 clear hH
 intro w2 hH
 refine hK1 _ _ ?_
 (try clear hK1 K1)
 refine wp_seq_k ?_
 intro K3 hK3
 refine wrt [.p 0, .p 1, .p 2, .p 3] ?_
 refine pm ?_;simp only [nf]
 refine pp rfl rfl (pr_len_Sl (hb.chg hH.chg) rfl Tryd.underlying29) ?_;simp only [nf]
 refine pp rfl rfl (pr_bin rfl rfl (by first | exact bin_sub_n (n := 16) (by omega) (by omega) | exact bin_sub_i (by omega) (by omega))) ?_;simp only [nf]
 refine pa ?_;simp only [nf]
 refine plan_nil hH ?_
 clear hH
 intro w4 hH
 refine hK3 _ _ ?_
 (try clear hK3 K3)
 refine wp_seq_k ?_
 intro K5 hK5
 refine wp_block ?_
 refine wp_seq_k ?_
 intro K6 hK6
 refine wrt [.p 0, .p 1, .p 2, .p 3, .p 4, .p 5, .p 6, .p 7] ?_
 refine pm ?_;simp only [nf]
 refine pp rfl rfl (pr_bin rfl rfl (bin_eql_pn Tryd.underlying79)) ?_;simp only [nf]
 refine plan_p (v := BV false) rfl rfl (pr_move_v rfl) ?_
 (try simp only [nf])
 refine pp rfl rfl pr_move ?_;simp only [nf]
 refine pp rfl rfl (pr_len_Sl (hn.chg hH.chg) rfl Tryd.underlying29) ?_;simp only [nf]
 refine pp rfl rfl (pr_bin rfl rfl (by first | exact bin_neq_n (n := 12)  | exact bin_neq_i)) ?_;simp only [nf]
 refine pp rfl rfl (pr_pick_f rfl) ?_;simp only [nf]
 refine pa ?_;simp only [nf]
 refine plan_nil hH ?_
 clear hH
 intro w7 hH
 refine hK6 _ _ ?_
 (try clear hK6 K6)
 refine wp_cond_false (by show BV _ = _; rw [hl]; rfl) ?_
 refine wp_seq_k ?_
 intro K8 hK8
 refine wrt [.p 0, .p 1, .p 2] ?_
 refine pm ?_;simp only [nf]
 refine pp rfl rfl (pr_bin rfl rfl (by first | exact bin_lss_n (n := 0)  | exact bin_lss_i)) ?_;simp only [nf]
 refine pa ?_;simp only [nf]
 refine plan_nil hH ?_
 clear hH
 intro w9 hH
 refine hK8 _ _ ?_
 (try clear hK8 K8)
 refine wp_cond_false (by show BV _ = _; exact congrArg BV (decide_eq_false (by omega))) ?_
 refine wp_seq_k ?_
 intro K10 hK10
 refine wrp [.p 0, .p 1, .p 2, .p 3, .p 4, .p 5, .p 7, .p 8, .p 9, .x 6, .q 10, .p 11, .p 12] ?_
 refine pm (pm (pm (pm (pm ?_))));simp only [nf]
 refine pp rfl rfl (pr_slice_Sl_h (hb.chg hH.chg) rfl rfl Tryd.underlying29 sz5 (by omega)) ?_;simp only [nf]
 refine pm (pm ?_);simp only [nf]
 refine pp rfl rfl (pr_slice_Sl_l (hb.chg hH.chg) rfl rfl Tryd.underlying29 sz5 (by omega)) ?_;simp only [nf]
 refine plan_callx rfl rfl hH cf64 (fun w' hH => seal_calls _ _ _ _ _ _ _ _ _ _ w' (hH.chg.nil_blk hx) (hH.chg.nil_blk hc) (hn.chg hH.chg) hl (ha.chg hH.chg) (Sl.cuth (hb.chg hH.chg) (by omega))) rfl (fun _ _ _ h => by obtain ⟨_, _, _, _, hg, _⟩ := h; exact hg) ?_
 clear hH
 intro w11 v12 w13 hH hp14
 obtain ⟨o15, cap16, cs17, rfl, hg, hO18, hfr⟩ := hp14
 replace hH := hH.callown hg hfr
 clear hg hfr
 (try simp only [nf, nh, Value.cells, arrB_set] at hH ⊢)
 (try simp only [nf])
 refine pq rfl rfl (qr_call cf65 (fun w' hw => same_calls _ _ _ _ w' (by first | omega | (simp [sealL_len] <;> omega)) ((OwnC.sl hH 0 rfl hO18).chg hw) ((Sl.cutl (hb.chg hH.chg) (by omega)).chg hw)) rfl) ?_;simp only [nf]
 refine pp rfl rfl (pr_not rfl) ?_;simp only [nf]
 refine pa ?_;simp only [nf]
 refine plan_nil hH ?_
 clear hH
 intro w19 hH
 refine hK10 _ _ ?_
 (try clear hK10 K10)
 refine wp_cond_false (by show BV (!_) = _; rw [beq_iff_eq.mpr he]; rfl) ?_
 refine wp_skip ?_
 refine hK5 _ _ ?_
 (try clear hK5 K5)
 refine wp_seq_k ?_
 intro K20 hK20
 refine wrp [.p 0, .p 1, .p 2, .p 4, .p 6, .p 7, .p 8, .q 3, .x 5, .x 9, .p 10, .p 11, .p 12, .p 13] ?_
 refine pm ?_;simp only [nf]
 refine pp rfl rfl (pr_nilCheck rfl) ?_;simp only [nf]
 refine pp rfl rfl (pr_fieldAddr 0 rfl Tryd.underlying132 rfl rfl sz123) ?_;simp only [nf]
 refine pm (pm (pm ?_));simp only [nf]
 refine pp rfl rfl (pr_slice_Sl_h (hb.chg hH.chg) rfl rfl Tryd.underlying29 sz5 (by omega)) ?_;simp only [nf]
 refine pq rfl rfl (qr_load1 rfl Tryd.underlying123 rfl ((hH.chg.nil_blk hx).cell rfl)) ?_;simp only [nf]
 refine plan_callx rfl rfl hH cf63 (fun w' hH => counter_calls _ _ 2 w' (hn.chg hH.chg) hl) rfl (fun _ _ _ h => by obtain ⟨_, _, _, _, hg, _⟩ := h; exact hg) ?_
 clear hH
 intro w21 v22 w23 hH hp24
 obtain ⟨o25, cap26, cs27, rfl, hg, hO28, hfr⟩ := hp24
 replace hH := hH.callown hg hfr
 clear hg hfr
 (try simp only [nf, nh, Value.cells, arrB_set] at hH ⊢)
 (try simp only [nf])
 refine plan_callx rfl rfl hH cf62 (fun w' hH => stream_calls _ _ (gctr nl 2) _ _ 0 _ _ w' (hH.chg.nil_blk hc) (OwnC.sl hH 1 rfl hO28) (by simp [hl]) (fun i hi => rfl) (Sl.cuth (hb.chg hH.chg) (by omega)) (by omega) (by first | omega | (simp <;> omega))) rfl (fun _ _ _ h => by obtain ⟨_, _, _, _, hg, _⟩ := h; exact hg) ?_
 clear hH
 intro w29 v30 w31 hH hp32
 obtain ⟨o33, cap34, cs35, rfl, hg, hO36, hfr⟩ := hp32
 replace hH := hH.callown hg hfr
 clear hg hfr
 (try simp only [nf, nh, Value.cells, arrB_set] at hH ⊢)
 (try simp only [nf])
 refine pp rfl rfl (pr_extract rfl rfl) ?_;simp only [nf]
 refine pp rfl rfl (pr_extract rfl rfl) ?_;simp only [nf]
 refine pa (pa ?_);simp only [nf]
 refine plan_nil hH ?_
 clear hH
 intro w37 hH
 refine hK20 _ _ ?_
 (try clear hK20 K20)
 refine wp_ret ?_
 (try simp only [Exit.then, Exit.inBlock, ↓reduceIte, Nat.reduceEqDiff])
 refine BP.ret2 rfl rfl rfl ?_
 rw [show (bl.take (bl.length - 16)).length = bl.length - 16 by simp] at *
 exact ⟨_, _, _, rfl, hH.chg, (by unfold hidL; rw [show (bl.take (bl.length - 16)).length = bl.length - 16 by simp]; assumption), hH.owned 2 rfl⟩
end Go.Proofs.YtdkjdioccpoacaaDoor
set_option linter.unusedSimpArgs false
set_option linter.unusedVariables false
set_option maxRecDepth 100000
namespace Go.Proofs.YtdkjdioccpoacaaDoor
open Go
def xs (f : Nat → Nat) : Nat → Nat
  | 0 => 0
  | n + 1 => xs f n ^^^ f n
def cf (a i : Nat) : Bool := a.testBit (127 - i)
def e0 : Nat := 2 ^ 127
def e1 : Nat := 2 ^ 126
end Go.Proofs.YtdkjdioccpoacaaDoor
set_option linter.unusedSimpArgs false
set_option linter.unusedVariables false
set_option maxRecDepth 100000
set_option maxHeartbeats 4000000
namespace Go.Proofs.YtdkjdioccpoacaaDoor
open Go
open List (getD_cons_zero getD_cons_succ set_cons_zero set_cons_succ)
theorem str_len (s : ByteArray) : s.data.toList.length = s.size := rfl
theorem bsz (l : List UInt8) : (ByteArray.mk l.toArray).size = l.length := by simp [ByteArray.size]
end Go.Proofs.YtdkjdioccpoacaaDoor
set_option linter.unusedSimpArgs false
set_option linter.unusedVariables false
set_option maxRecDepth 100000
set_option maxHeartbeats 4000000
namespace Go.Proofs.YtdkjdioccpoacaaDoor
open Go
open List (getD_cons_zero getD_cons_succ set_cons_zero set_cons_succ)
theorem sealedL_len (K : Nat → UInt8) (h : P2) (nl al bl : List UInt8) : (sealedL K h nl al bl).length = bl.length + 16 := by
  unfold sealedL; rw [List.length_append, hidL_len, sealL_len]
end Go.Proofs.YtdkjdioccpoacaaDoor
set_option linter.unusedSimpArgs false
set_option linter.unusedVariables false
set_option maxRecDepth 100000
set_option maxHeartbeats 4000000
namespace Go.Proofs.YtdkjdioccpoacaaDoor
open Go
open List (getD_cons_zero getD_cons_succ set_cons_zero set_cons_succ)
def rightB (a b c : ByteArray) : Bool := a.size == 16 && (b.size == 12 && c.size == 16)
def nonL (l : List UInt8) (n : Nat) : Nat → List UInt8
  | 0 => l
  | i + 1 => (nonL l n i).set (11 - i) ((nonL l n i).getD (11 - i) 0 ^^^ UInt8.ofNat (n / 2 ^ (8 * i)))
@[simp] theorem nonL_len (l : List UInt8) (n i : Nat) : (nonL l n i).length = l.length := by
  induction i with
  | zero => rfl
  | succ i ih => simp [nonL, ih]
theorem right_a (a b c : ByteArray) (w : World) (h : a.size ≠ 16) : Ret Tryd.prog 27 #[.agg #[.string a, .string b, .string c]] w fun v w' => v = BV false ∧ Chg [] w w' := by
 refine Ret.enter Tryd.func27 rfl ?_
 simp only [Tryd.ntmps27, fe, Nat.reduceAdd, Nat.reduceSub]
 have hH := Hp.start [] w
 refine wp_seq_k ?_
 intro K1 hK1
 refine wrt [.x 0, .p 1] ?_
 refine plan_box rfl rfl hH rfl ?_
 clear hH
 intro b2 w3 hH
 (try simp only [nf, nh, Value.cells, arrB_set] at hH ⊢)
 refine pa ?_;simp only [nf]
 refine plan_nil hH ?_
 clear hH
 intro w4 hH
 refine hK1 _ _ ?_
 (try clear hK1 K1)
 refine wp_seq_k ?_
 intro K5 hK5
 refine wrt [.p 0, .q 1, .p 2, .p 3, .p 4, .p 5, .q 6, .p 7, .p 8, .p 9, .p 10, .p 11, .q 12, .p 13, .p 14, .p 15, .p 16] ?_
 refine pp rfl rfl (pr_fieldAddr 0 rfl Tryd.underlying33 rfl rfl sz9) ?_;simp only [nf]
 refine pq rfl rfl (qr_load1 rfl Tryd.underlying9 rfl ((hH.blk 0 rfl).cell rfl)) ?_;simp only [nf]
 refine pp rfl rfl (pr_len_str rfl Tryd.underlying9) ?_;simp only [nf]
 refine pp rfl rfl (pr_bin rfl rfl (by first | exact bin_eql_n (n := 16)  | exact bin_eql_i)) ?_;simp only [nf]
 refine plan_p (v := BV false) rfl rfl (pr_move_v (by show BV _ = _; exact congrArg BV (beq_eq_false_iff_ne.2 h))) ?_
 (try simp only [nf])
 refine plan_ps rfl rfl ?_
 (try simp only [nf])
 refine plan_qs rfl rfl ?_
 (try simp only [nf])
 refine plan_ps rfl rfl ?_
 (try simp only [nf])
 refine plan_ps rfl rfl ?_
 (try simp only [nf])
 refine pp rfl rfl (pr_pick_f rfl) ?_;simp only [nf]
 refine plan_p (v := BV false) rfl rfl (pr_move_v rfl) ?_
 (try simp only [nf])
 refine plan_ps rfl rfl ?_
 (try simp only [nf])
 refine plan_qs rfl rfl ?_
 (try simp only [nf])
 refine plan_ps rfl rfl ?_
 (try simp only [nf])
 refine plan_ps rfl rfl ?_
 (try simp only [nf])
 refine pp rfl rfl (pr_pick_f rfl) ?_;simp only [nf]
 refine pa ?_;simp only [nf]
 refine plan_nil hH ?_
 clear hH
 intro w6 hH
 refine hK5 _ _ ?_
 (try clear hK5 K5)
 refine wp_ret ?_
 (try simp only [Exit.then, Exit.inBlock, ↓reduceIte, Nat.reduceEqDiff])
 refine BP.ret1 rfl rfl ?_
 exact ⟨rfl, hH.chg⟩
theorem right_b (a b c : ByteArray) (w : World) (h : a.size = 16) (h2 : b.size ≠ 12) : Ret Tryd.prog 27 #[.agg #[.string a, .string b, .string c]] w fun v w' => v = BV false ∧ Chg [] w w' := by
 refine Ret.enter Tryd.func27 rfl ?_
 simp only [Tryd.ntmps27, fe, Nat.reduceAdd, Nat.reduceSub]
 have hH := Hp.start [] w
 refine wp_seq_k ?_
 intro K1 hK1
 refine wrt [.x 0, .p 1] ?_
 refine plan_box rfl rfl hH rfl ?_
 clear hH
 intro b2 w3 hH
 (try simp only [nf, nh, Value.cells, arrB_set] at hH ⊢)
 refine pa ?_;simp only [nf]
 refine plan_nil hH ?_
 clear hH
 intro w4 hH
 refine hK1 _ _ ?_
 (try clear hK1 K1)
 refine wp_seq_k ?_
 intro K5 hK5
 refine wrt [.p 0, .q 1, .p 2, .p 3, .p 4, .p 5, .q 6, .p 7, .p 8, .p 9, .p 10, .p 11, .q 12, .p 13, .p 14, .p 15, .p 16] ?_
 refine pp rfl rfl (pr_fieldAddr 0 rfl Tryd.underlying33 rfl rfl sz9) ?_;simp only [nf]
 refine pq rfl rfl (qr_load1 rfl Tryd.underlying9 rfl ((hH.blk 0 rfl).cell rfl)) ?_;simp only [nf]
 refine pp rfl rfl (pr_len_str rfl Tryd.underlying9) ?_;simp only [nf]
 refine pp rfl rfl (pr_bin rfl rfl (by first | exact bin_eql_n (n := 16)  | exact bin_eql_i)) ?_;simp only [nf]
 refine plan_p (v := BV true) rfl rfl (pr_move_v (by show BV _ = _; exact congrArg BV (beq_iff_eq.2 h))) ?_
 (try simp only [nf])
 refine pp rfl rfl (pr_fieldAddr 1 rfl Tryd.underlying33 rfl rfl sz9) ?_;simp only [nf]
 refine pq rfl rfl (qr_load1 rfl Tryd.underlying9 rfl ((hH.blk 0 rfl).cell rfl)) ?_;simp only [nf]
 refine pp rfl rfl (pr_len_str rfl Tryd.underlying9) ?_;simp only [nf]
 refine pp rfl rfl (pr_bin rfl rfl (by first | exact bin_eql_n (n := 12)  | exact bin_eql_i)) ?_;simp only [nf]
 refine pp rfl rfl (pr_pick_t rfl) ?_;simp only [nf]
 refine plan_p (v := BV false) rfl rfl (pr_move_v (by show BV _ = _; exact congrArg BV (beq_eq_false_iff_ne.2 h2))) ?_
 (try simp only [nf])
 refine plan_ps rfl rfl ?_
 (try simp only [nf])
 refine plan_qs rfl rfl ?_
 (try simp only [nf])
 refine plan_ps rfl rfl ?_
 (try simp only [nf])
 refine plan_ps rfl rfl ?_
 (try simp only [nf])
 refine pp rfl rfl (pr_pick_f rfl) ?_;simp only [nf]
 refine pa ?_;simp only [nf]
 refine plan_nil hH ?_
 clear hH
 intro w6 hH
 refine hK5 _ _ ?_
 (try clear hK5 K5)
 refine wp_ret ?_
 (try simp only [Exit.then, Exit.inBlock, ↓reduceIte, Nat.reduceEqDiff])
 refine BP.ret1 rfl rfl ?_
 exact ⟨rfl, hH.chg⟩
theorem right_c (a b c : ByteArray) (w : World) (h : a.size = 16) (h2 : b.size = 12) : Ret Tryd.prog 27 #[.agg #[.string a, .string b, .string c]] w fun v w' => v = BV (c.size == 16) ∧ Chg [] w w' := by
 refine Ret.enter Tryd.func27 rfl ?_
 simp only [Tryd.ntmps27, fe, Nat.reduceAdd, Nat.reduceSub]
 have hH := Hp.start [] w
 refine wp_seq_k ?_
 intro K1 hK1
 refine wrt [.x 0, .p 1] ?_
 refine plan_box rfl rfl hH rfl ?_
 clear hH
 intro b2 w3 hH
 (try simp only [nf, nh, Value.cells, arrB_set] at hH ⊢)
 refine pa ?_;simp only [nf]
 refine plan_nil hH ?_
 clear hH
 intro w4 hH
 refine hK1 _ _ ?_
 (try clear hK1 K1)
 refine wp_seq_k ?_
 intro K5 hK5
 refine wrt [.p 0, .q 1, .p 2, .p 3, .p 4, .p 5, .q 6, .p 7, .p 8, .p 9, .p 10, .p 11, .q 12, .p 13, .p 14, .p 15, .p 16] ?_
 refine pp rfl rfl (pr_fieldAddr 0 rfl Tryd.underlying33 rfl rfl sz9) ?_;simp only [nf]
 refine pq rfl rfl (qr_load1 rfl Tryd.underlying9 rfl ((hH.blk 0 rfl).cell rfl)) ?_;simp only [nf]
 refine pp rfl rfl (pr_len_str rfl Tryd.underlying9) ?_;simp only [nf]
 refine pp rfl rfl (pr_bin rfl rfl (by first | exact bin_eql_n (n := 16)  | exact bin_eql_i)) ?_;simp only [nf]
 refine plan_p (v := BV true) rfl rfl (pr_move_v (by show BV _ = _; exact congrArg BV (beq_iff_eq.2 h))) ?_
 (try simp only [nf])
 refine pp rfl rfl (pr_fieldAddr 1 rfl Tryd.underlying33 rfl rfl sz9) ?_;simp only [nf]
 refine pq rfl rfl (qr_load1 rfl Tryd.underlying9 rfl ((hH.blk 0 rfl).cell rfl)) ?_;simp only [nf]
 refine pp rfl rfl (pr_len_str rfl Tryd.underlying9) ?_;simp only [nf]
 refine pp rfl rfl (pr_bin rfl rfl (by first | exact bin_eql_n (n := 12)  | exact bin_eql_i)) ?_;simp only [nf]
 refine pp rfl rfl (pr_pick_t rfl) ?_;simp only [nf]
 refine plan_p (v := BV true) rfl rfl (pr_move_v (by show BV _ = _; exact congrArg BV (beq_iff_eq.2 h2))) ?_
 (try simp only [nf])
 refine pp rfl rfl (pr_fieldAddr 2 rfl Tryd.underlying33 rfl rfl sz9) ?_;simp only [nf]
 refine pq rfl rfl (qr_load1 rfl Tryd.underlying9 rfl ((hH.blk 0 rfl).cell rfl)) ?_;simp only [nf]
 refine pp rfl rfl (pr_len_str rfl Tryd.underlying9) ?_;simp only [nf]
 refine pp rfl rfl (pr_bin rfl rfl (by first | exact bin_eql_n (n := 16)  | exact bin_eql_i)) ?_;simp only [nf]
 refine pp rfl rfl (pr_pick_t rfl) ?_;simp only [nf]
 refine pa ?_;simp only [nf]
 refine plan_nil hH ?_
 clear hH
 intro w6 hH
 refine hK5 _ _ ?_
 (try clear hK5 K5)
 refine wp_ret ?_
 (try simp only [Exit.then, Exit.inBlock, ↓reduceIte, Nat.reduceEqDiff])
 refine BP.ret1 rfl rfl ?_
 exact ⟨rfl, hH.chg⟩
theorem right_calls (a b c : ByteArray) (w : World) : Ret Tryd.prog 27 #[.agg #[.string a, .string b, .string c]] w fun v w' => v = BV (rightB a b c) ∧ Chg [] w w' := by
  unfold rightB
  by_cases h : a.size = 16
  · by_cases h2 : b.size = 12
    · rw [beq_iff_eq.2 h, beq_iff_eq.2 h2]; exact right_c a b c w h h2
    · rw [beq_iff_eq.2 h, beq_eq_false_iff_ne.2 h2]; exact right_b a b c w h h2
  · rw [beq_eq_false_iff_ne.2 h]; exact right_a a b c w h
theorem nonce_calls (a b c : ByteArray) (n : Nat) (w : World) (hb : b.size = 12) (hn : n < 9223372036854775808) : Ret Tryd.prog 31 #[.agg #[.string a, .string b, .string c], I64 n] w fun v w' => ∃ o cap cs, v = own o 12 cap ∧ Chg [] w w' ∧ OwnC o 12 cap 1 cs ((nonL b.data.toList n 8).map V8) ∧ ∀ b, o = some b → w.heap.size ≤ b ∧ Blk w' b 5 cs := by
 have hsl : b.data.toList.length = b.size := by simp
 refine Ret.enter Tryd.func31 rfl ?_
 simp only [Tryd.ntmps31, fe, Nat.reduceAdd, Nat.reduceSub]
 have hH := Hp.start [] w
 refine wp_seq_k ?_
 intro K1 hK1
 refine wrt [.x 0, .p 1] ?_
 refine plan_box rfl rfl hH rfl ?_
 clear hH
 intro b2 w3 hH
 (try simp only [nf, nh, Value.cells, arrB_set] at hH ⊢)
 refine pa ?_;simp only [nf]
 refine plan_nil hH ?_
 clear hH
 intro w4 hH
 refine hK1 _ _ ?_
 (try clear hK1 K1)
 refine wp_seq_k ?_
 intro K5 hK5
 refine wrt [.p 0, .q 1, .x 2, .p 3] ?_
 refine pp rfl rfl (pr_fieldAddr 1 rfl Tryd.underlying33 rfl rfl sz9) ?_;simp only [nf]
 refine pq rfl rfl (qr_load1 rfl Tryd.underlying9 rfl ((hH.blk 0 rfl).cell rfl)) ?_;simp only [nf]
 refine plan_s2b rfl rfl hH rfl Tryd.underlying9 Tryd.underlying29 Tryd.underlying5 ?_
 clear hH
 intro b6 cap7 cs8 w9 hO10 hH
 (try simp only [nf] at hH ⊢)
 (try simp only [nf, nh, Value.cells, arrB_set] at hH ⊢)
 refine pa ?_;simp only [nf]
 refine plan_nil hH ?_
 clear hH
 intro w11 hH
 refine hK5 _ _ ?_
 (try clear hK5 K5)
 refine wp_seq_k ?_
 intro K12 hK12
 refine wp_seq_k ?_
 intro K13 hK13
 refine wrt [.p 0] ?_
 refine pk 0 ?_;simp only [nf]
 refine plan_nil hH ?_
 clear hH
 intro w14 hH
 refine hK13 _ _ ?_
 (try clear hK13 K13)
 refine wp_block ?_
 obtain ⟨kc15, hkc16, hN⟩ := hH.name 0 rfl
 replace hH := hN; clear hN; simp only [List.set_cons_zero, List.set_cons_succ] at hH
 refine wp_loopT [10] [6, 11, 12, 13, 14, 15, 16, 17, 18, 19, 20, 21, 22, 23, 24, 25] (fun (n17 : Nat) (vs : List Value) (w' : World) => ∃ (i : Nat) (cs : Array Value), vs = [I64 (i : Nat)] ∧ Hp [] w w' [(some b2, 33, kc15), (some b6, 5, cs)] ∧ n17 = 8 - i ∧ i ≤ 8 ∧ OwnC (some b6) b.size cap7 1 cs ((nonL b.data.toList n i).map V8)) (8 - 0) (by kernel_rfl) ?_ ?_
 ·
  simp only [ga]
  refine ⟨0, cs8, rfl, ?_, rfl, ?_, ?_⟩
  ·
   exact hH
  · first | omega | (omega)
  · first | omega | (exact hO10)
 clear hH
 intro n17 vs18 w19 hR20 d0
 obtain ⟨i, cs, rfl, hH, hn21, hf22, hO⟩ := hR20
 simp only [putAll, putD, List.set_cons_zero, List.set_cons_succ, Nat.zero_add, Nat.reduceAdd]
 subst hkc16
 refine wp_seq_k ?_
 intro K23 hK23
 refine wrt [.p 0] ?_
 refine pp rfl rfl (pr_bin rfl rfl (by first | exact bin_lss_n (n := 8)  | exact bin_lss_i)) ?_;simp only [nf]
 refine plan_nil hH ?_
 clear hH
 intro w24 hH
 refine hK23 _ _ ?_
 (try clear hK23 K23)
 refine wp_seq_k ?_
 intro K25 hK25
 refine wp_cond_split rfl (fun hc26 => ?_) (fun hc26 => ?_)
 ·
  (try simp only [cnd] at hc26)
  refine wp_skip ?_
  refine hK25 _ _ ?_
  (try clear hK25 K25)
  refine wp_seq_k ?_
  intro K27 hK27
  refine wp_block ?_
  refine wp_seq_k ?_
  intro K28 hK28
  refine wrt [.p 0, .p 1] ?_
  refine pm (pa ?_);simp only [nf]
  refine plan_nil hH ?_
  clear hH
  intro w29 hH
  refine hK28 _ _ ?_
  (try clear hK28 K28)
  refine wrp [.p 0, .p 1, .p 2, .p 3, .p 5, .p 6, .p 7, .p 8, .p 9, .q 4, .p 10, .p 11, .e 12] ?_
  refine pm (pm ?_);simp only [nf]
  refine pp rfl rfl (pr_bin rfl rfl (by first | exact bin_sub_n (m := 11) (by first | omega | (simp <;> omega)) (by first | omega | (simp <;> omega)) | exact bin_sub_i (by first | omega | (simp <;> omega)) (by first | omega | (simp <;> omega)))) ?_;simp only [nf]
  refine pp rfl rfl (pr_idx_Sl (OwnC.sl hH 1 rfl hO) rfl rfl Tryd.underlying29 sz5 (by first | omega | (simp <;> omega))) ?_;simp only [nf]
  refine pm (pm ?_);simp only [nf]
  refine pp rfl rfl (pr_bin rfl rfl (by first | exact bin_mul_n (m := 8) (by first | omega | (simp <;> omega)) | exact bin_mul_i (by first | omega | (simp <;> omega)) (by first | omega | (simp <;> omega)))) ?_;simp only [nf]
  refine pp rfl rfl (pr_bin rfl rfl (by first | exact bin_shr_n (by first | omega | (simp <;> omega)) | exact bin_shr_i (by first | omega | (simp <;> omega)))) ?_;simp only [nf]
  refine pp rfl rfl (pr_conv rfl (by first | exact cnv_n_u8 Tryd.underlying3 Tryd.underlying5 | exact cnv_i_u8 Tryd.underlying3 Tryd.underlying5)) ?_;simp only [nf]
  refine pq rfl rfl (qr_load1 rfl Tryd.underlying5 rfl (Sl.cell (OwnC.sl hH 1 rfl hO) (by first | omega | (simp <;> omega)))) ?_;simp only [nf]
  refine pp rfl rfl (pr_bin rfl rfl (bin_xor_u8 _ _)) ?_;simp only [nf]
  refine pp rfl rfl (pr_idx_Sl (OwnC.sl hH 1 rfl hO) rfl rfl Tryd.underlying29 sz5 (by first | omega | (simp <;> omega))) ?_;simp only [nf]
  refine plan_storeO 1 rfl rfl hH rfl rfl hO rfl sz5 (by first | omega | (simp <;> omega)) ?_
  clear hH
  intro cs31 w30 hO32 hH
  (try simp only [nf, nh, Value.cells, arrB_set] at hH ⊢)
  refine plan_nil hH ?_
  clear hH
  intro w33 hH
  refine hK27 _ _ ?_
  (try clear hK27 K27)
  refine wrt [.p 0, .p 1] ?_
  refine pp rfl rfl (pr_bin rfl rfl (by first | exact bin_add_n (n := 1) (by first | omega | (simp <;> omega)) | exact bin_add_i (by first | omega | (simp <;> omega)) (by first | omega | (simp <;> omega)))) ?_;simp only [nf]
  refine pm ?_;simp only [nf]
  refine plan_nil hH ?_
  clear hH
  intro w34 hH
  (try simp only [Exit.then, Exit.inBlock, ↓reduceIte, Nat.reduceEqDiff])
  refine ⟨8 - (i + 1), ?_, _, rfl, by kernel_rfl, ?_⟩
  · first | omega | (omega)
  simp only [ga]
  refine ⟨i + 1, cs31, rfl, ?_, rfl, ?_, ?_⟩
  ·
   exact hH
  · first | omega | (omega)
  · first | omega | (unfold nonL; exact hO32)
 ·
  (try simp only [cnd] at hc26)
  refine wp_exit ?_
  (try simp only [Exit.then, Exit.inBlock, ↓reduceIte, Nat.reduceEqDiff])
  refine hK12 _ _ ?_
  (try clear hK12 K12)
  refine wp_seq_k ?_
  intro K35 hK35
  refine wrt [.p 0, .p 1] ?_
  refine pm (pa ?_);simp only [nf]
  refine plan_nil hH ?_
  clear hH
  intro w36 hH
  refine hK35 _ _ ?_
  (try clear hK35 K35)
  refine wp_ret ?_
  (try simp only [Exit.then, Exit.inBlock, ↓reduceIte, Nat.reduceEqDiff])
  refine BP.ret1 rfl rfl ?_
  obtain rfl : i = 8 := by omega
  rw [hb] at hO ⊢
  exact ⟨_, _, _, rfl, hH.chg, hO, hH.owned 1 rfl⟩
end Go.Proofs.YtdkjdioccpoacaaDoor
set_option linter.unusedSimpArgs false
set_option linter.unusedVariables false
set_option maxRecDepth 100000
set_option maxHeartbeats 4000000
namespace Go.Proofs.YtdkjdioccpoacaaDoor
open Go
open List (getD_cons_zero getD_cons_succ set_cons_zero set_cons_succ)
def lowN (l : List UInt8) : Nat → Nat
  | 0 => 0
  | i + 1 => lowN l i * 2 ^ 8 ||| (l.getD i 0).toNat
theorem lowN_lt (l : List UInt8) : ∀ i, lowN l i < 2 ^ (8 * i)
  | 0 => Nat.zero_lt_one
  | i + 1 => by
    have ih := lowN_lt l i
    unfold lowN
    have h2 : (2 : Nat) ^ (8 * (i + 1)) = 2 ^ (8 * i) * 2 ^ 8 := by rw [← Nat.pow_add]; rfl
    refine Nat.or_lt_two_pow ?_ ?_
    · rw [h2]; exact Nat.mul_lt_mul_of_pos_right ih (by decide)
    · have := lt_u8 (l.getD i 0)
      have h3 : 1 ≤ 2 ^ (8 * i) := Nat.one_le_two_pow
      rw [h2]
      calc (l.getD i 0).toNat < 256 := this
        _ = 1 * 2 ^ 8 := rfl
        _ ≤ 2 ^ (8 * i) * 2 ^ 8 := Nat.mul_le_mul_right _ h3
theorem lowN_32 (l : List UInt8) (i : Nat) (h : i ≤ 4) : lowN l i < 4294967296 := Nat.lt_of_lt_of_le (lowN_lt l i) (by
  have : (2 : Nat) ^ (8 * i) ≤ 2 ^ 32 := Nat.pow_le_pow_right (by decide) (by omega)
  exact this)
theorem low_calls (v : Value) (l : List UInt8) (w : World) (hv : Sl w v l) (hl : l.length ≤ 4) : Ret Tryd.prog 28 #[v] w fun v' w' => v' = I64 (lowN l l.length : Nat) ∧ Chg [] w w' := by
 refine Ret.enter Tryd.func28 rfl ?_
 simp only [Tryd.ntmps28, fe, Nat.reduceAdd, Nat.reduceSub]
 have hH := Hp.start [] w
 refine wp_seq_k ?_
 intro K1 hK1
 refine wrt [.p 0] ?_
 refine pka 0 ?_;simp only [nf]
 refine plan_nil hH ?_
 clear hH
 intro w2 hH
 refine hK1 _ _ ?_
 (try clear hK1 K1)
 refine wp_seq_k ?_
 intro K3 hK3
 refine wrt [.p 0] ?_
 refine pka 0 ?_;simp only [nf]
 refine plan_nil hH ?_
 clear hH
 intro w4 hH
 refine hK3 _ _ ?_
 (try clear hK3 K3)
 refine wp_seq_k ?_
 intro K5 hK5
 refine wp_seq_k ?_
 intro K6 hK6
 refine wrt [.p 0, .p 1, .p 2] ?_
 refine pm ?_;simp only [nf]
 refine pp rfl rfl (pr_len_Sl (hv.chg hH.chg) rfl Tryd.underlying29) ?_;simp only [nf]
 refine pk 0 ?_;simp only [nf]
 refine plan_nil hH ?_
 clear hH
 intro w7 hH
 refine hK6 _ _ ?_
 (try clear hK6 K6)
 refine wp_block ?_
 refine wp_loopT [3, 8] [5, 9, 10, 11, 12, 13, 14, 15, 16, 17] (fun (n8 : Nat) (vs : List Value) (w' : World) => ∃ (i : Nat), vs = [I64 (lowN l i : Nat), I64 (i : Nat)] ∧ Hp [] w w' [] ∧ n8 = l.length - i ∧ i ≤ l.length) (l.length - 0) (by kernel_rfl) ?_ ?_
 ·
  simp only [ga]
  refine ⟨0, rfl, ?_, rfl, ?_⟩
  ·
   exact hH
  · first | omega | (omega)
 clear hH
 intro n8 vs9 w10 hR11 d0
 obtain ⟨i, rfl, hH, hn12, hf13⟩ := hR11
 simp only [putAll, putD, List.set_cons_zero, List.set_cons_succ, Nat.zero_add, Nat.reduceAdd]
 have hlw := lowN_32 l i (by omega)
 refine wp_seq_k ?_
 intro K14 hK14
 refine wrt [.p 0] ?_
 refine pp rfl rfl (pr_bin rfl rfl (by first | exact bin_lss_n  | exact bin_lss_i)) ?_;simp only [nf]
 refine plan_nil hH ?_
 clear hH
 intro w15 hH
 refine hK14 _ _ ?_
 (try clear hK14 K14)
 refine wp_seq_k ?_
 intro K16 hK16
 refine wp_cond_split rfl (fun hc17 => ?_) (fun hc17 => ?_)
 ·
  (try simp only [cnd] at hc17)
  refine wp_skip ?_
  refine hK16 _ _ ?_
  (try clear hK16 K16)
  refine wp_seq_k ?_
  intro K18 hK18
  refine wp_block ?_
  refine wp_seq_k ?_
  intro K19 hK19
  refine wrt [.p 0, .q 1, .p 2] ?_
  refine pp rfl rfl (pr_idx_Sl (hv.chg hH.chg) rfl rfl Tryd.underlying29 sz5 (by first | omega | (first | omega | (have := lt_u8 (l.getD i 0); omega)))) ?_;simp only [nf]
  refine pq rfl rfl (qr_load1 rfl Tryd.underlying5 rfl (Sl.cell (hv.chg hH.chg) (by first | omega | (first | omega | (have := lt_u8 (l.getD i 0); omega))))) ?_;simp only [nf]
  refine pa ?_;simp only [nf]
  refine plan_nil hH ?_
  clear hH
  intro w20 hH
  refine hK19 _ _ ?_
  (try clear hK19 K19)
  refine wrt [.p 0, .p 1, .p 2, .p 3, .p 4, .p 5] ?_
  refine pm ?_;simp only [nf]
  refine pp rfl rfl (pr_bin rfl rfl (bin_shl_n (c := 8) (by decide) (by first | omega | (first | omega | (have := lt_u8 (l.getD i 0); omega))))) ?_;simp only [nf]
  refine pm ?_;simp only [nf]
  refine pp rfl rfl (pr_conv rfl (cnv_u8_n _ Tryd.underlying5 Tryd.underlying3)) ?_;simp only [nf]
  refine pp rfl rfl (pr_bin rfl rfl (by first | exact bin_or_n (by first | omega | (first | omega | (have := lt_u8 (l.getD i 0); omega))) (by first | omega | (first | omega | (have := lt_u8 (l.getD i 0); omega))))) ?_;simp only [nf]
  refine pa ?_;simp only [nf]
  refine plan_nil hH ?_
  clear hH
  intro w21 hH
  refine hK18 _ _ ?_
  (try clear hK18 K18)
  refine wrt [.p 0, .p 1] ?_
  refine pp rfl rfl (pr_bin rfl rfl (by first | exact bin_add_n (n := 1) (by first | omega | (first | omega | (have := lt_u8 (l.getD i 0); omega))) | exact bin_add_i (by first | omega | (first | omega | (have := lt_u8 (l.getD i 0); omega))) (by first | omega | (first | omega | (have := lt_u8 (l.getD i 0); omega))))) ?_;simp only [nf]
  refine pm ?_;simp only [nf]
  refine plan_nil hH ?_
  clear hH
  intro w22 hH
  (try simp only [Exit.then, Exit.inBlock, ↓reduceIte, Nat.reduceEqDiff])
  refine ⟨l.length - (i + 1), ?_, _, rfl, by kernel_rfl, ?_⟩
  · first | omega | (omega)
  simp only [ga]
  refine ⟨i + 1, rfl, ?_, rfl, ?_⟩
  ·
   exact hH
  · first | omega | (omega)
 ·
  (try simp only [cnd] at hc17)
  refine wp_exit ?_
  (try simp only [Exit.then, Exit.inBlock, ↓reduceIte, Nat.reduceEqDiff])
  refine hK5 _ _ ?_
  (try clear hK5 K5)
  refine wp_seq_k ?_
  intro K23 hK23
  refine wrt [.p 0, .p 1] ?_
  refine pm (pa ?_);simp only [nf]
  refine plan_nil hH ?_
  clear hH
  intro w24 hH
  refine hK23 _ _ ?_
  (try clear hK23 K23)
  refine wp_ret ?_
  (try simp only [Exit.then, Exit.inBlock, ↓reduceIte, Nat.reduceEqDiff])
  refine BP.ret1 rfl rfl ?_
  obtain rfl : i = l.length := by omega
  exact ⟨rfl, hH.chg⟩
theorem within_calls (a b c : Nat) (w : World) (h : b ≤ a ∧ a ≤ c) : Ret Tryd.prog 46 #[I64 a, I64 b, I64 c] w fun v w' => v = BV true ∧ Chg [] w w' := by
 refine Ret.enter Tryd.func46 rfl ?_
 simp only [Tryd.ntmps46, fe, Nat.reduceAdd, Nat.reduceSub]
 have hH := Hp.start [] w
 refine wp_seq_k ?_
 intro K1 hK1
 refine wrt [.p 0] ?_
 refine pa ?_;simp only [nf]
 refine plan_nil hH ?_
 clear hH
 intro w2 hH
 refine hK1 _ _ ?_
 (try clear hK1 K1)
 refine wp_seq_k ?_
 intro K3 hK3
 refine wrt [.p 0, .p 1, .p 2, .p 3, .p 4, .p 5, .p 6, .p 7, .p 8] ?_
 refine pm (pm ?_);simp only [nf]
 refine pp rfl rfl (pr_bin rfl rfl (by first | exact bin_geq_n  | exact bin_geq_i)) ?_;simp only [nf]
 refine plan_p (v := BV true) rfl rfl (pr_move_v (by show BV _ = _; exact congrArg BV (decide_eq_true (by omega)))) ?_
 (try simp only [nf])
 refine pp rfl rfl pr_move ?_;simp only [nf]
 refine pp rfl rfl pr_move ?_;simp only [nf]
 refine pp rfl rfl (pr_bin rfl rfl (by first | exact bin_leq_n  | exact bin_leq_i)) ?_;simp only [nf]
 refine pp rfl rfl (pr_pick_t rfl) ?_;simp only [nf]
 refine pa ?_;simp only [nf]
 refine plan_nil hH ?_
 clear hH
 intro w4 hH
 refine hK3 _ _ ?_
 (try clear hK3 K3)
 refine wp_ret ?_
 (try simp only [Exit.then, Exit.inBlock, ↓reduceIte, Nat.reduceEqDiff])
 refine BP.ret1 rfl rfl ?_
 exact ⟨congrArg BV (decide_eq_true h.2), hH.chg⟩
end Go.Proofs.YtdkjdioccpoacaaDoor
set_option linter.unusedSimpArgs false
set_option linter.unusedVariables false
set_option maxRecDepth 100000
set_option maxHeartbeats 4000000
namespace Go.Proofs.YtdkjdioccpoacaaDoor
open Go
open List (getD_cons_zero getD_cons_succ set_cons_zero set_cons_succ)
def wholeN (low size e : Nat) : Nat :=
  if e / 2 ^ (8 * size) * 2 ^ (8 * size) + low + 2 ^ (8 * size) / 2 ≤ e ∧ e / 2 ^ (8 * size) * 2 ^ (8 * size) + low + 2 ^ (8 * size) ≤ 4611686018427387903 then e / 2 ^ (8 * size) * 2 ^ (8 * size) + low + 2 ^ (8 * size)
  else if e + 2 ^ (8 * size) / 2 < e / 2 ^ (8 * size) * 2 ^ (8 * size) + low ∧ 2 ^ (8 * size) ≤ e / 2 ^ (8 * size) * 2 ^ (8 * size) + low then e / 2 ^ (8 * size) * 2 ^ (8 * size) + low - 2 ^ (8 * size)
  else e / 2 ^ (8 * size) * 2 ^ (8 * size) + low
theorem whole_bits (e low k : Nat) (hl : low < 2 ^ k) (he : e < 9223372036854775808) (hk : k ≤ 32) : (e &&& (18446744073709551615 - (2 ^ k - 1))) ||| low = e / 2 ^ k * 2 ^ k + low := by
  have h1 : e / 2 ^ k * 2 ^ k + low = (e / 2 ^ k * 2 ^ k) ||| low := by
    rw [Nat.mul_comm, Nat.two_pow_add_eq_or_of_lt hl]
  rw [h1]
  congr 1
  apply Nat.eq_of_testBit_eq
  intro i
  have hp : 2 ^ k ≤ 2 ^ 32 := Nat.pow_le_pow_right (by decide) hk
  have h64 : (2 : Nat) ^ 64 = 18446744073709551616 := rfl
  have e1 : 18446744073709551615 - (2 ^ k - 1) = 2 ^ 64 - (2 ^ k - 1 + 1) := by omega
  have hp0 : 0 < 2 ^ k := Nat.two_pow_pos k
  have h6432 : (2 : Nat) ^ 32 ≤ 2 ^ 64 := Nat.pow_le_pow_right (by decide) (by decide)
  rw [Nat.testBit_and, e1, Nat.testBit_two_pow_sub_succ (by omega), Nat.testBit_two_pow_sub_one, Nat.mul_comm, Nat.testBit_two_pow_mul, Nat.testBit_div_two_pow]
  by_cases hik : i < k
  · rw [decide_eq_true hik]
    have : decide (i ≥ k) = false := decide_eq_false (by omega)
    rw [this]; simp
  · have : decide (i ≥ k) = true := decide_eq_true (by omega)
    rw [decide_eq_false hik, this]
    by_cases hi : i < 64
    · rw [decide_eq_true hi, show i - k + k = i by omega]; simp
    · have h2 : e.testBit i = false := Nat.testBit_lt_two_pow (Nat.lt_of_lt_of_le he (by
        have : (2 : Nat) ^ 64 ≤ 2 ^ i := Nat.pow_le_pow_right (by decide) (by omega)
        omega))
      rw [show i - k + k = i by omega, h2]; simp
theorem pow_size (s : Nat) (h1 : 1 ≤ s) (h4 : s ≤ 4) : 256 ≤ 2 ^ (8 * s) ∧ 2 ^ (8 * s) ≤ 4294967296 ∧ 2 ^ (8 * s) % 2 = 0 := by
  obtain rfl | rfl | rfl | rfl : s = 1 ∨ s = 2 ∨ s = 3 ∨ s = 4 := by omega
  all_goals decide
theorem pkwhole_calls (low size e : Nat) (w : World) (h1 : 1 ≤ size) (h4 : size ≤ 4) (hl : low < 2 ^ (8 * size)) (he : e ≤ 4611686018427387903) : Ret Tryd.prog 35 #[I64 low, I64 size, I64 e] w fun v w' => v = .tuple #[I64 (wholeN low size e : Nat), I64 (0 : Nat)] ∧ Chg [] w w' := by
 obtain ⟨hw1, hw2, hw3⟩ := pow_size size h1 h4
 have hwb := whole_bits e low (8 * size) hl (by omega) (by omega)
 have hdm : e / 2 ^ (8 * size) * 2 ^ (8 * size) ≤ e := Nat.div_mul_le_self _ _
 have hand : e &&& (18446744073709551615 - (2 ^ (8 * size) - 1)) ≤ e := Nat.and_le_left
 refine Ret.enter Tryd.func35 rfl ?_
 simp only [Tryd.ntmps35, fe, Nat.reduceAdd, Nat.reduceSub]
 have hH := Hp.start [] w
 refine wp_seq_k ?_
 intro K1 hK1
 refine wrt [.p 0, .p 1] ?_
 refine pka 0 (pka 0 ?_);simp only [nf]
 refine plan_nil hH ?_
 clear hH
 intro w2 hH
 refine hK1 _ _ ?_
 (try clear hK1 K1)
 refine wp_seq_k ?_
 intro K3 hK3
 refine wp_seq_k ?_
 intro K4 hK4
 refine wrt [.p 0, .q 1, .p 2, .p 3, .p 4, .p 5, .p 6, .p 7, .p 8, .q 9, .p 10, .p 11, .p 12, .p 13, .q 14, .p 15, .p 16] ?_
 refine pm ?_;simp only [nf]
 refine pq rfl rfl (qr_call cf46 (fun w' hw => within_calls _ 1 4 w' (by omega)) rfl) ?_;simp only [nf]
 refine pp rfl rfl (pr_not rfl) ?_;simp only [nf]
 refine plan_p (v := BV false) rfl rfl (pr_move_v rfl) ?_
 (try simp only [nf])
 refine pp rfl rfl pr_move ?_;simp only [nf]
 refine pp rfl rfl pr_move ?_;simp only [nf]
 refine pp rfl rfl (pr_bin rfl rfl (by first | exact bin_mul_n (m := 8) (by omega) | exact bin_mul_i (by omega) (by omega))) ?_;simp only [nf]
 refine pp rfl rfl (pr_bin rfl rfl (bin_shl_n (m := 1) (by omega) (by omega))) ?_;simp only [nf]
 refine pp rfl rfl (pr_bin rfl rfl (by first | exact bin_sub_n (n := 1) (by omega) (by omega) | exact bin_sub_i (by omega) (by omega))) ?_;simp only [nf]
 refine pq rfl rfl (qr_call cf46 (fun w' hw => within_calls _ 0 _ w' (by omega)) rfl) ?_;simp only [nf]
 refine pp rfl rfl (pr_not rfl) ?_;simp only [nf]
 refine pp rfl rfl (pr_pick_f rfl) ?_;simp only [nf]
 refine plan_p (v := BV false) rfl rfl (pr_move_v rfl) ?_
 (try simp only [nf])
 refine pp rfl rfl pr_move ?_;simp only [nf]
 refine pq rfl rfl (qr_call cf46 (fun w' hw => within_calls _ 0 4611686018427387903 w' (by omega)) rfl) ?_;simp only [nf]
 refine pp rfl rfl (pr_not rfl) ?_;simp only [nf]
 refine pp rfl rfl (pr_pick_f rfl) ?_;simp only [nf]
 refine plan_nil hH ?_
 clear hH
 intro w5 hH
 refine hK4 _ _ ?_
 (try clear hK4 K4)
 refine wp_cond_false rfl ?_
 refine wp_skip ?_
 refine hK3 _ _ ?_
 (try clear hK3 K3)
 refine wp_seq_k ?_
 intro K6 hK6
 refine wrt [.p 0, .p 1, .p 2, .p 3] ?_
 refine pm ?_;simp only [nf]
 refine pp rfl rfl (pr_bin rfl rfl (by first | exact bin_mul_n (m := 8) (by omega) | exact bin_mul_i (by omega) (by omega))) ?_;simp only [nf]
 refine pp rfl rfl (pr_bin rfl rfl (bin_shl_n (m := 1) (by omega) (by omega))) ?_;simp only [nf]
 refine pa ?_;simp only [nf]
 refine plan_nil hH ?_
 clear hH
 intro w7 hH
 simp only [Nat.one_mul]
 refine hK6 _ _ ?_
 (try clear hK6 K6)
 refine wp_seq_k ?_
 intro K8 hK8
 refine wrt [.p 0, .p 1, .p 2, .p 3, .p 4, .p 5, .p 6] ?_
 refine pm (pm ?_);simp only [nf]
 refine pp rfl rfl (pr_bin rfl rfl (by first | exact bin_sub_n (n := 1) (by omega) (by omega) | exact bin_sub_i (by omega) (by omega))) ?_;simp only [nf]
 refine pp rfl rfl (pr_bin rfl rfl (by first | exact bin_andNot_n (by omega) (by omega))) ?_;simp only [nf]
 refine pm ?_;simp only [nf]
 refine pp rfl rfl (pr_bin rfl rfl (by first | exact bin_or_n (by omega) (by omega))) ?_;simp only [nf]
 refine pa ?_;simp only [nf]
 refine plan_nil hH ?_
 clear hH
 intro w9 hH
 rw [hwb]
 refine hK8 _ _ ?_
 (try clear hK8 K8)
 refine wp_seq_k ?_
 intro K10 hK10
 refine wp_block ?_
 refine wp_seq_k ?_
 intro K11 hK11
 refine wrt [.p 0, .p 1, .p 2, .p 3, .p 4, .p 5, .p 6, .p 7, .p 8, .p 9, .p 10, .p 11, .p 12] ?_
 refine pm (pm (pm ?_));simp only [nf]
 refine pp rfl rfl (pr_bin rfl rfl (by first | exact bin_quo_n (n := 2) (by omega) (by omega))) ?_;simp only [nf]
 refine pp rfl rfl (pr_bin rfl rfl (by first | exact bin_sub_n (by omega) (by omega) | exact bin_sub_i (by omega) (by omega))) ?_;simp only [nf]
 refine pp rfl rfl (pr_bin rfl rfl (by first | exact bin_leq_n  | exact bin_leq_i)) ?_;simp only [nf]
 refine pm ?_;simp only [nf]
 refine plan_pc_t rfl rfl rfl (fun hb => by have hb' := hb; try simp only [gsl] at hb'; rw [hb]; exact pr_move) ?_
 (try simp only [nf])
 refine plan_pc_t rfl rfl rfl (fun hb => by have hb' := hb; try simp only [gsl] at hb'; rw [hb]; exact pr_move) ?_
 (try simp only [nf])
 refine plan_pc_t rfl rfl rfl (fun hb => by have hb' := hb; try simp only [gsl] at hb'; rw [hb]; exact (pr_bin rfl rfl (by first | exact bin_sub_n (m := 4611686018427387903) (by omega) (by omega) | exact bin_sub_i (by omega) (by omega)))) ?_
 (try simp only [nf])
 refine plan_pc_t rfl rfl rfl (fun hb => by have hb' := hb; try simp only [gsl] at hb'; rw [hb]; exact (pr_bin rfl rfl (by first | exact bin_leq_n  | exact bin_leq_i))) ?_
 (try simp only [nf])
 refine pp rfl rfl (pr_pick_and rfl rfl rfl) ?_;simp only [nf]
 refine pa ?_;simp only [nf]
 refine plan_nil hH ?_
 clear hH
 intro w12 hH
 refine hK11 _ _ ?_
 (try clear hK11 K11)
 refine wp_cond_split rfl (fun hc13 => ?_) (fun hc13 => ?_)
 ·
  (try simp only [cnd, Bool.and_eq_true, Bool.and_eq_false_iff, Bool.or_eq_true, Bool.or_eq_false_iff] at hc13)
  refine wp_seq_k ?_
  intro K14 hK14
  refine wrt [.p 0, .p 1, .p 2, .p 3, .p 4] ?_
  refine pm (pm ?_);simp only [nf]
  refine pp rfl rfl (pr_bin rfl rfl (by first | exact bin_add_n (by omega) | exact bin_add_i (by omega) (by omega))) ?_;simp only [nf]
  refine pa (pka 0 ?_);simp only [nf]
  refine plan_nil hH ?_
  clear hH
  intro w15 hH
  refine hK14 _ _ ?_
  (try clear hK14 K14)
  refine wp_ret ?_
  (try simp only [Exit.then, Exit.inBlock, ↓reduceIte, Nat.reduceEqDiff])
  refine BP.ret2 rfl rfl rfl ?_
  first | (exact ⟨congrArg (fun n : Nat => Value.tuple #[I64 (n : Nat), I64 (0 : Nat)]) (by unfold wholeN; rw [if_pos (by omega)]), hH.chg⟩) | (exact ⟨congrArg (fun n : Nat => Value.tuple #[I64 (n : Nat), I64 (0 : Nat)]) (by unfold wholeN; rw [if_neg (by omega), if_pos (by omega)]), hH.chg⟩) | (exact ⟨congrArg (fun n : Nat => Value.tuple #[I64 (n : Nat), I64 (0 : Nat)]) (by unfold wholeN; rw [if_neg (by omega), if_neg (by omega)]), hH.chg⟩)
 ·
  (try simp only [cnd, Bool.and_eq_true, Bool.and_eq_false_iff, Bool.or_eq_true, Bool.or_eq_false_iff] at hc13)
  refine wp_seq_k ?_
  intro K16 hK16
  refine wrt [.p 0, .p 1, .p 2, .p 3, .p 4, .p 5, .p 6, .p 7, .p 8, .p 9, .p 10, .p 11] ?_
  refine pm (pm (pm ?_));simp only [nf]
  refine pp rfl rfl (pr_bin rfl rfl (by first | exact bin_quo_n (n := 2) (by omega) (by omega))) ?_;simp only [nf]
  refine pp rfl rfl (pr_bin rfl rfl (by first | exact bin_add_n (by omega) | exact bin_add_i (by omega) (by omega))) ?_;simp only [nf]
  refine pp rfl rfl (pr_bin rfl rfl (by first | exact bin_gtr_n  | exact bin_gtr_i)) ?_;simp only [nf]
  refine pm ?_;simp only [nf]
  refine plan_pc_t rfl rfl rfl (fun hb => by have hb' := hb; try simp only [gsl] at hb'; rw [hb]; exact pr_move) ?_
  (try simp only [nf])
  refine plan_pc_t rfl rfl rfl (fun hb => by have hb' := hb; try simp only [gsl] at hb'; rw [hb]; exact pr_move) ?_
  (try simp only [nf])
  refine plan_pc_t rfl rfl rfl (fun hb => by have hb' := hb; try simp only [gsl] at hb'; rw [hb]; exact (pr_bin rfl rfl (by first | exact bin_geq_n  | exact bin_geq_i))) ?_
  (try simp only [nf])
  refine pp rfl rfl (pr_pick_and rfl rfl rfl) ?_;simp only [nf]
  refine pa ?_;simp only [nf]
  refine plan_nil hH ?_
  clear hH
  intro w17 hH
  refine hK16 _ _ ?_
  (try clear hK16 K16)
  refine wp_cond_split rfl (fun hc18 => ?_) (fun hc18 => ?_)
  ·
   (try simp only [cnd, Bool.and_eq_true, Bool.and_eq_false_iff, Bool.or_eq_true, Bool.or_eq_false_iff] at hc18)
   refine wp_seq_k ?_
   intro K19 hK19
   refine wrt [.p 0, .p 1, .p 2, .p 3, .p 4] ?_
   refine pm (pm ?_);simp only [nf]
   refine pp rfl rfl (pr_bin rfl rfl (by first | exact bin_sub_n (by omega) (by omega) | exact bin_sub_i (by omega) (by omega))) ?_;simp only [nf]
   refine pa (pka 0 ?_);simp only [nf]
   refine plan_nil hH ?_
   clear hH
   intro w20 hH
   refine hK19 _ _ ?_
   (try clear hK19 K19)
   refine wp_ret ?_
   (try simp only [Exit.then, Exit.inBlock, ↓reduceIte, Nat.reduceEqDiff])
   refine BP.ret2 rfl rfl rfl ?_
   first | (exact ⟨congrArg (fun n : Nat => Value.tuple #[I64 (n : Nat), I64 (0 : Nat)]) (by unfold wholeN; rw [if_pos (by omega)]), hH.chg⟩) | (exact ⟨congrArg (fun n : Nat => Value.tuple #[I64 (n : Nat), I64 (0 : Nat)]) (by unfold wholeN; rw [if_neg (by omega), if_pos (by omega)]), hH.chg⟩) | (exact ⟨congrArg (fun n : Nat => Value.tuple #[I64 (n : Nat), I64 (0 : Nat)]) (by unfold wholeN; rw [if_neg (by omega), if_neg (by omega)]), hH.chg⟩)
  ·
   (try simp only [cnd, Bool.and_eq_true, Bool.and_eq_false_iff, Bool.or_eq_true, Bool.or_eq_false_iff] at hc18)
   refine wp_skip ?_
   refine hK10 _ _ ?_
   (try clear hK10 K10)
   refine wp_seq_k ?_
   intro K21 hK21
   refine wrt [.p 0, .p 1, .p 2] ?_
   refine pm (pa (pka 0 ?_));simp only [nf]
   refine plan_nil hH ?_
   clear hH
   intro w22 hH
   refine hK21 _ _ ?_
   (try clear hK21 K21)
   refine wp_ret ?_
   (try simp only [Exit.then, Exit.inBlock, ↓reduceIte, Nat.reduceEqDiff])
   refine BP.ret2 rfl rfl rfl ?_
   first | (exact ⟨congrArg (fun n : Nat => Value.tuple #[I64 (n : Nat), I64 (0 : Nat)]) (by unfold wholeN; rw [if_pos (by omega)]), hH.chg⟩) | (exact ⟨congrArg (fun n : Nat => Value.tuple #[I64 (n : Nat), I64 (0 : Nat)]) (by unfold wholeN; rw [if_neg (by omega), if_pos (by omega)]), hH.chg⟩) | (exact ⟨congrArg (fun n : Nat => Value.tuple #[I64 (n : Nat), I64 (0 : Nat)]) (by unfold wholeN; rw [if_neg (by omega), if_neg (by omega)]), hH.chg⟩)
theorem clone_calls (v : Value) (l : List UInt8) (w : World) (hv : Sl w v l) (hne : l ≠ []) (hl : l.length ≤ 140737488355328) : Ret Tryd.prog 32 #[v] w fun v' w' => ∃ o cap cs, v' = own o l.length cap ∧ Chg [] w w' ∧ OwnC o l.length cap 1 cs ((l).map V8) ∧ ∀ b, o = some b → w.heap.size ≤ b ∧ Blk w' b 5 cs := by
 refine Ret.enter Tryd.func32 rfl ?_
 simp only [Tryd.ntmps32, fe, Nat.reduceAdd, Nat.reduceSub]
 have hH := Hp.start [] w
 refine wp_seq_k ?_
 intro K1 hK1
 refine wrt [.p 0] ?_
 refine pa ?_;simp only [nf]
 refine plan_nil hH ?_
 clear hH
 intro w2 hH
 refine hK1 _ _ ?_
 (try clear hK1 K1)
 refine wp_seq_k ?_
 intro K3 hK3
 refine wp_seq_k ?_
 intro K4 hK4
 refine wrt [.p 0, .p 1] ?_
 refine pm ?_;simp only [nf]
 refine pp rfl rfl (pr_bin rfl rfl (bin_eql_Sl (hv.chg hH.chg) hne Tryd.underlying29)) ?_;simp only [nf]
 refine plan_nil hH ?_
 clear hH
 intro w5 hH
 refine hK4 _ _ ?_
 (try clear hK4 K4)
 refine wp_cond_false rfl ?_
 refine wp_skip ?_
 refine hK3 _ _ ?_
 (try clear hK3 K3)
 refine wp_seq_k ?_
 intro K6 hK6
 refine wrt [.x 0, .p 1, .e 2, .p 3] ?_
 refine plan_buildSlice rfl rfl hH Tryd.underlying29 (by rfl) (bs0 ) ?_
 clear hH
 intro b7 w8 hH
 (try simp only [nf, nh, Value.cells, arrB_set] at hH ⊢)
 refine pm ?_;simp only [nf]
 refine plan_append 0 rfl rfl hH rfl (OwnC.of_bytes rfl) (fun w' hH => ((hv.chg hH.chg)).src) rfl rfl Tryd.underlying29 Tryd.underlying29 (.inl ⟨_, rfl⟩) sz5 bz5 ze5 rfl (by first | omega | (simp <;> omega)) (by first | omega | (simp <;> omega)) ?_
 clear hH
 intro o9 cap10 cs11 w12 hO13 hH
 (try simp only [nf] at hH ⊢)
 (try simp only [nf, nh, Value.cells, arrB_set] at hH ⊢)
 try rw [← List.map_append] at hO13
 (try simp only [Nat.zero_add, List.nil_append, List.length_nil] at hO13 ⊢)
 refine pa ?_;simp only [nf]
 refine plan_nil hH ?_
 clear hH
 intro w14 hH
 refine hK6 _ _ ?_
 (try clear hK6 K6)
 refine wp_ret ?_
 (try simp only [Exit.then, Exit.inBlock, ↓reduceIte, Nat.reduceEqDiff])
 refine BP.ret1 rfl rfl ?_
 exact ⟨_, _, _, rfl, hH.chg, (by assumption), hH.owned 0 rfl⟩
def hideL (l ml : List UInt8) (p : Nat) : Nat → List UInt8
  | 0 => l.set 0 (l.getD 0 0 ^^^ ml.getD 0 0)
  | i + 1 => (hideL l ml p i).set (p + i) ((hideL l ml p i).getD (p + i) 0 ^^^ ml.getD (1 + i) 0)
@[simp] theorem hideL_len (l ml : List UInt8) (p n : Nat) : (hideL l ml p n).length = l.length := by
  induction n with
  | zero => simp [hideL]
  | succ n ih => simp [hideL, ih]
def sampL (l : List UInt8) (p : Nat) : List UInt8 := (l.drop (p + 4)).take 16
def maskR (K : List UInt8) (l : List UInt8) (p : Nat) : Nat → UInt8 := aesR (kexp fun i => K.getD i 0) (fun i => (sampL l p).getD i 0) 10
def maskF (K l : List UInt8) (p : Nat) : Nat → UInt8 := upd (maskR K l p) 0 (if l.getD 0 0 &&& 128 != 0 then maskR K l p 0 &&& 15 else maskR K l p 0 &&& 31)
def maskL (K l : List UInt8) (p : Nat) : List UInt8 := (List.range 16).map (maskF K l p)
@[simp] theorem maskL_len (K l : List UInt8) (p : Nat) : (maskL K l p).length = 16 := by simp [maskL]
theorem sampL_len (l : List UInt8) (p : Nat) (h : p + 20 ≤ l.length) : (sampL l p).length = 16 := by unfold sampL; rw [List.length_take, List.length_drop]; omega
theorem hide_calls (b cap m : Nat) (cs : Array Value) (l ml : List UInt8) (mv : Value) (p n : Nat) (w : World) (hlm : l.length = m) (hb : Blk w b 5 cs) (hO : OwnC (some b) m cap 1 cs (l.map V8)) (hm : ∀ w', Chg [b] w w' → Sl w' mv ml) (h1 : 1 ≤ l.length) (h2 : p + n ≤ l.length) (h3 : n + 1 ≤ ml.length) (h4 : l.length < 9223372036854775808) : Ret Tryd.prog 33 #[own (some b) m cap, mv, I64 p, I64 n] w fun v w' => v = .tuple #[] ∧ Chg [b] w w' ∧ ∃ cs', Blk w' b 5 cs' ∧ OwnC (some b) m cap 1 cs' ((hideL l ml p n).map V8) := by
 subst hlm
 refine Ret.enter Tryd.func33 rfl ?_
 simp only [Tryd.ntmps33, fe, Nat.reduceAdd, Nat.reduceSub]
 have hH := Hp.start1 hb
 refine wp_seq_k ?_
 intro K1 hK1
 refine wrp [.p 0, .p 1, .p 3, .p 4, .q 2, .q 5, .p 6, .p 7, .e 8] ?_
 refine pm ?_;simp only [nf]
 refine pp rfl rfl (pr_idx_Sl (i := 0) (OwnC.sl hH 0 rfl hO) rfl rfl Tryd.underlying29 sz5 (by first | omega | ((try simp only [hideL_len]); omega))) ?_;simp only [nf]
 refine pm ?_;simp only [nf]
 refine pp rfl rfl (pr_idx_Sl (i := 0) (hm _ hH.chg) rfl rfl Tryd.underlying29 sz5 (by first | omega | ((try simp only [hideL_len]); omega))) ?_;simp only [nf]
 refine pq rfl rfl (qr_load1 rfl Tryd.underlying5 rfl (Sl.cell (i := 0) (OwnC.sl hH 0 rfl hO) (by first | omega | ((try simp only [hideL_len]); omega)))) ?_;simp only [nf]
 refine pq rfl rfl (qr_load1 rfl Tryd.underlying5 rfl (Sl.cell (i := 0) (hm _ hH.chg) (by first | omega | ((try simp only [hideL_len]); omega)))) ?_;simp only [nf]
 refine pp rfl rfl (pr_bin rfl rfl (bin_xor_u8 _ _)) ?_;simp only [nf]
 refine pp rfl rfl (pr_idx_Sl (i := 0) (OwnC.sl hH 0 rfl hO) rfl rfl Tryd.underlying29 sz5 (by first | omega | ((try simp only [hideL_len]); omega))) ?_;simp only [nf]
 refine plan_storeO 0 (j := 0) rfl rfl hH rfl rfl hO rfl sz5 (by first | omega | ((try simp only [hideL_len]); omega)) ?_
 clear hH
 intro cs3 w2 hO4 hH
 (try simp only [nf, nh, Value.cells, arrB_set] at hH ⊢)
 refine plan_nil hH ?_
 clear hH
 intro w5 hH
 refine hK1 _ _ ?_
 (try clear hK1 K1)
 refine wp_seq_k ?_
 intro K6 hK6
 refine wrt [.p 0, .p 1] ?_
 refine pm (pk 0 ?_);simp only [nf]
 refine plan_nil hH ?_
 clear hH
 intro w7 hH
 refine hK6 _ _ ?_
 (try clear hK6 K6)
 refine wp_block ?_
 refine wp_loopT [18] [8, 19, 20, 21, 22, 23, 24, 25, 26, 27, 28, 29, 30, 31, 32, 33, 34] (fun (n8 : Nat) (vs : List Value) (w' : World) => ∃ (i : Nat) (cs' : Array Value), vs = [I64 (i : Nat)] ∧ Hp [b] w w' [(some b, 5, cs')] ∧ n8 = n - i ∧ i ≤ n ∧ OwnC (some b) l.length cap 1 cs' ((hideL l ml p i).map V8)) (n - 0) (by kernel_rfl) ?_ ?_
 ·
  simp only [ga]
  refine ⟨0, cs3, rfl, ?_, rfl, ?_, ?_⟩
  ·
   exact hH
  · first | omega | (omega)
  · first | omega | (exact hO4)
 clear hH
 intro n8 vs9 w10 hR11 d0
 obtain ⟨i, cs', rfl, hH, hn12, hf13, hO'⟩ := hR11
 simp only [putAll, putD, List.set_cons_zero, List.set_cons_succ, Nat.zero_add, Nat.reduceAdd]
 have hhl := hideL_len l ml p i
 refine wp_seq_k ?_
 intro K14 hK14
 refine wrt [.p 0] ?_
 refine pp rfl rfl (pr_bin rfl rfl (by first | exact bin_lss_n  | exact bin_lss_i)) ?_;simp only [nf]
 refine plan_nil hH ?_
 clear hH
 intro w15 hH
 refine hK14 _ _ ?_
 (try clear hK14 K14)
 refine wp_seq_k ?_
 intro K16 hK16
 refine wp_cond_split rfl (fun hc17 => ?_) (fun hc17 => ?_)
 ·
  (try simp only [cnd] at hc17)
  refine wp_skip ?_
  refine hK16 _ _ ?_
  (try clear hK16 K16)
  refine wp_seq_k ?_
  intro K18 hK18
  refine wp_block ?_
  refine wp_seq_k ?_
  intro K19 hK19
  refine wrt [.p 0, .p 1] ?_
  refine pm (pa ?_);simp only [nf]
  refine plan_nil hH ?_
  clear hH
  intro w20 hH
  refine hK19 _ _ ?_
  (try clear hK19 K19)
  refine wrp [.p 0, .p 1, .p 2, .p 3, .p 4, .p 6, .p 7, .p 8, .p 9, .q 5, .q 10, .p 11, .p 12, .e 13] ?_
  refine pm (pm (pm ?_));simp only [nf]
  refine pp rfl rfl (pr_bin rfl rfl (by first | exact bin_add_n (by first | omega | ((try simp only [hideL_len]); omega)) | exact bin_add_i (by first | omega | ((try simp only [hideL_len]); omega)) (by first | omega | ((try simp only [hideL_len]); omega)))) ?_;simp only [nf]
  refine pp rfl rfl (pr_idx_Sl (OwnC.sl hH 0 rfl hO') rfl rfl Tryd.underlying29 sz5 (by first | omega | ((try simp only [hideL_len]); omega))) ?_;simp only [nf]
  refine pm (pm ?_);simp only [nf]
  refine pp rfl rfl (pr_bin rfl rfl (by first | exact bin_add_n (m := 1) (by first | omega | ((try simp only [hideL_len]); omega)) | exact bin_add_i (by first | omega | ((try simp only [hideL_len]); omega)) (by first | omega | ((try simp only [hideL_len]); omega)))) ?_;simp only [nf]
  refine pp rfl rfl (pr_idx_Sl (hm _ hH.chg) rfl rfl Tryd.underlying29 sz5 (by first | omega | ((try simp only [hideL_len]); omega))) ?_;simp only [nf]
  refine pq rfl rfl (qr_load1 rfl Tryd.underlying5 rfl (Sl.cell (OwnC.sl hH 0 rfl hO') (by first | omega | ((try simp only [hideL_len]); omega)))) ?_;simp only [nf]
  refine pq rfl rfl (qr_load1 rfl Tryd.underlying5 rfl (Sl.cell (hm _ hH.chg) (by first | omega | ((try simp only [hideL_len]); omega)))) ?_;simp only [nf]
  refine pp rfl rfl (pr_bin rfl rfl (bin_xor_u8 _ _)) ?_;simp only [nf]
  refine pp rfl rfl (pr_idx_Sl (OwnC.sl hH 0 rfl hO') rfl rfl Tryd.underlying29 sz5 (by first | omega | ((try simp only [hideL_len]); omega))) ?_;simp only [nf]
  refine plan_storeO 0 rfl rfl hH rfl rfl hO' rfl sz5 (by first | omega | ((try simp only [hideL_len]); omega)) ?_
  clear hH
  intro cs22 w21 hO23 hH
  (try simp only [nf, nh, Value.cells, arrB_set] at hH ⊢)
  refine plan_nil hH ?_
  clear hH
  intro w24 hH
  refine hK18 _ _ ?_
  (try clear hK18 K18)
  refine wrt [.p 0, .p 1] ?_
  refine pp rfl rfl (pr_bin rfl rfl (by first | exact bin_add_n (n := 1) (by first | omega | ((try simp only [hideL_len]); omega)) | exact bin_add_i (by first | omega | ((try simp only [hideL_len]); omega)) (by first | omega | ((try simp only [hideL_len]); omega)))) ?_;simp only [nf]
  refine pm ?_;simp only [nf]
  refine plan_nil hH ?_
  clear hH
  intro w25 hH
  (try simp only [Exit.then, Exit.inBlock, ↓reduceIte, Nat.reduceEqDiff])
  refine ⟨n - (i + 1), ?_, _, rfl, by kernel_rfl, ?_⟩
  · first | omega | (omega)
  simp only [ga]
  refine ⟨i + 1, cs22, rfl, ?_, rfl, ?_, ?_⟩
  ·
   exact hH
  · first | omega | (omega)
  · first | omega | (unfold hideL; exact hO23)
 ·
  (try simp only [cnd] at hc17)
  refine wp_exit ?_
  (try simp only [Exit.then, Exit.inBlock, ↓reduceIte, Nat.reduceEqDiff])
  refine BP.normal ?_
  refine BP.ret0 rfl rfl ?_
  obtain rfl : i = n := by omega
  exact ⟨rfl, hH.chg, _, hH.blk 0 rfl, hO'⟩
theorem mask_calls (a b c : ByteArray) (v : Value) (l : List UInt8) (p : Nat) (w : World) (hv : Sl w v l) (hc : c.size = 16) (hp : p + 20 ≤ l.length) (hl : l.length < 9223372036854775808) : Ret Tryd.prog 34 #[.agg #[.string a, .string b, .string c], v, I64 p] w fun v' w' => ∃ bm, v' = .slice (some ⟨bm, 0, none⟩) 16 16 ∧ Chg [] w w' ∧ w.heap.size ≤ bm ∧ Blk w' bm 130 (arr8 16 (maskF c.data.toList l p)) := by
 refine Ret.enter Tryd.func34 rfl ?_
 simp only [Tryd.ntmps34, fe, Nat.reduceAdd, Nat.reduceSub]
 have hH := Hp.start [] w
 refine wp_seq_k ?_
 intro K1 hK1
 refine wrt [.x 0, .p 1] ?_
 refine plan_box rfl rfl hH rfl ?_
 clear hH
 intro b2 w3 hH
 (try simp only [nf, nh, Value.cells, arrB_set] at hH ⊢)
 refine pa ?_;simp only [nf]
 refine plan_nil hH ?_
 clear hH
 intro w4 hH
 refine hK1 _ _ ?_
 (try clear hK1 K1)
 refine wp_seq_k ?_
 intro K5 hK5
 refine wrt [.p 0, .q 1, .x 2, .x 3, .p 4, .p 5, .p 6, .p 7, .p 8] ?_
 refine pp rfl rfl (pr_fieldAddr 2 rfl Tryd.underlying33 rfl rfl sz9) ?_;simp only [nf]
 refine pq rfl rfl (qr_load1 rfl Tryd.underlying9 rfl ((hH.blk 0 rfl).cell rfl)) ?_;simp only [nf]
 refine plan_s2b rfl rfl hH rfl Tryd.underlying9 Tryd.underlying29 Tryd.underlying5 ?_
 clear hH
 intro b6 cap7 cs8 w9 hO10 hH
 (try simp only [nf] at hH ⊢)
 (try simp only [nf, nh, Value.cells, arrB_set] at hH ⊢)
 refine plan_callx rfl rfl hH cf59 (fun w' hH => new_calls _ _ w' (OwnC.sl hH 1 rfl hO10) (by simpa using hc)) rfl (fun _ _ _ h => h.choose_spec.2.1) ?_
 clear hH
 intro w11 v12 w13 hH hp14
 obtain ⟨b15, rfl, hg, hfr, hbk⟩ := hp14
 replace hH := hH.callnew hg hbk hfr
 clear hg hfr hbk
 (try simp only [nf, nh, Value.cells, arrB_set] at hH ⊢)
 (try simp only [nf])
 refine pm ?_;simp only [nf]
 refine pp rfl rfl (pr_extract rfl rfl) ?_;simp only [nf]
 refine pp rfl rfl (pr_extract rfl rfl) ?_;simp only [nf]
 refine pa (pa ?_);simp only [nf]
 refine plan_nil hH ?_
 clear hH
 intro w16 hH
 refine hK5 _ _ ?_
 (try clear hK5 K5)
 refine wp_seq_k ?_
 intro K17 hK17
 refine wrt [.p 0, .p 1, .p 2, .p 3, .p 4, .p 5, .p 6, .p 7, .x 8, .p 9, .p 10, .p 11, .p 12, .p 13] ?_
 refine pm (pm (pm ?_));simp only [nf]
 refine pp rfl rfl (pr_bin rfl rfl (by first | exact bin_add_n (n := 4) (by omega) | exact bin_add_i (by omega) (by omega))) ?_;simp only [nf]
 refine pm ?_;simp only [nf]
 refine pp rfl rfl (pr_bin rfl rfl (by first | exact bin_add_n (n := 4) (by omega) | exact bin_add_i (by omega) (by omega))) ?_;simp only [nf]
 refine pp rfl rfl (pr_bin rfl rfl (by first | exact bin_add_n (n := 16) (by omega) | exact bin_add_i (by omega) (by omega))) ?_;simp only [nf]
 refine pp rfl rfl (pr_slice_Sl_lh (hv.chg hH.chg) rfl rfl rfl Tryd.underlying29 sz5 (by omega) (by omega)) ?_;simp only [nf]
 refine plan_callx rfl rfl hH cf60 (fun w' hH => block_calls _ _ _ _ w' (hH.blk 2 rfl) (Sl.cut (hv.chg hH.chg) (by omega) (by omega)) (by simpa [sampL] using sampL_len l p hp)) rfl (fun _ _ _ h => h.choose_spec.2.1) ?_
 clear hH
 intro w18 v19 w20 hH hp21
 obtain ⟨b22, rfl, hg, hfr, hbk⟩ := hp21
 replace hH := hH.callnew hg hbk hfr
 clear hg hfr hbk
 (try simp only [nf, nh, Value.cells, arrB_set] at hH ⊢)
 (try simp only [nf])
 refine pm ?_;simp only [nf]
 refine pp rfl rfl (pr_extract rfl rfl) ?_;simp only [nf]
 refine pp rfl rfl (pr_extract rfl rfl) ?_;simp only [nf]
 refine pa (pa ?_);simp only [nf]
 refine plan_nil hH ?_
 clear hH
 intro w23 hH
 simp only [Nat.add_sub_cancel_left] at hH
 refine hK17 _ _ ?_
 (try clear hK17 K17)
 refine wp_seq_k ?_
 intro K24 hK24
 refine wp_seq_k ?_
 intro K25 hK25
 refine wrt [.p 0, .p 1, .q 2, .p 3, .p 4] ?_
 refine pm ?_;simp only [nf]
 refine pp rfl rfl (pr_idx_Sl (i := 0) (hv.chg hH.chg) rfl rfl Tryd.underlying29 sz5 (by omega)) ?_;simp only [nf]
 refine pq rfl rfl (qr_load1 rfl Tryd.underlying5 rfl (Sl.cell (i := 0) (hv.chg hH.chg) (by omega))) ?_;simp only [nf]
 refine pp rfl rfl (pr_bin rfl rfl (bin_and_u8 _ 128)) ?_;simp only [nf]
 refine pp rfl rfl (pr_bin rfl rfl (bin_neq_u8 _ 0)) ?_;simp only [nf]
 refine plan_nil hH ?_
 clear hH
 intro w26 hH
 refine hK25 _ _ ?_
 (try clear hK25 K25)
 refine wp_cond_split rfl (fun hc27 => ?_) (fun hc27 => ?_)
 ·
  (try simp only [cnd] at hc27)
  have hq := hc27
  refine wrt [.p 0, .p 1, .q 2, .p 3, .p 4, .e 5] ?_
  refine pm ?_;simp only [nf]
  refine pp rfl rfl (pr_idxS1 (i := 0) rfl rfl Tryd.underlying29 sz5 (by omega)) ?_;simp only [nf]
  refine pq rfl rfl (qr_load1 rfl Tryd.underlying5 rfl ((hH.blk 3 rfl).cell (arr8_get (by omega)))) ?_;simp only [nf]
  refine pp rfl rfl (pr_bin rfl rfl (bin_and_u8 _ 15)) ?_;simp only [nf]
  refine pp rfl rfl (pr_idxS1 (i := 0) rfl rfl Tryd.underlying29 sz5 (by omega)) ?_;simp only [nf]
  refine plan_store1 3 rfl rfl hH rfl rfl rfl rfl sz5 (by simp <;> omega) ?_
  clear hH
  intro w28 hH
  (try simp only [nf, nh, Value.cells, arrB_set] at hH ⊢)
  refine plan_nil hH ?_
  clear hH
  intro w29 hH
  refine hK24 _ _ ?_
  (try clear hK24 K24)
  refine wp_seq_k ?_
  intro K30 hK30
  refine wrt [.p 0, .p 1] ?_
  refine pm (pa ?_);simp only [nf]
  refine plan_nil hH ?_
  clear hH
  intro w31 hH
  refine hK30 _ _ ?_
  (try clear hK30 K30)
  refine wp_ret ?_
  (try simp only [Exit.then, Exit.inBlock, ↓reduceIte, Nat.reduceEqDiff])
  refine BP.ret1 rfl rfl ?_
  exact ⟨_, rfl, hH.chg, (hH.mine 3 rfl).resolve_right (by simp), (hH.say 3 rfl (arr8_congr fun i _ => by unfold maskF; rw [if_pos (bne_iff_ne.2 hq)]; rfl)).blk 3 rfl⟩
 ·
  (try simp only [cnd] at hc27)
  have hq := hc27
  refine wrt [.p 0, .p 1, .q 2, .p 3, .p 4, .e 5] ?_
  refine pm ?_;simp only [nf]
  refine pp rfl rfl (pr_idxS1 (i := 0) rfl rfl Tryd.underlying29 sz5 (by omega)) ?_;simp only [nf]
  refine pq rfl rfl (qr_load1 rfl Tryd.underlying5 rfl ((hH.blk 3 rfl).cell (arr8_get (by omega)))) ?_;simp only [nf]
  refine pp rfl rfl (pr_bin rfl rfl (bin_and_u8 _ 31)) ?_;simp only [nf]
  refine pp rfl rfl (pr_idxS1 (i := 0) rfl rfl Tryd.underlying29 sz5 (by omega)) ?_;simp only [nf]
  refine plan_store1 3 rfl rfl hH rfl rfl rfl rfl sz5 (by simp <;> omega) ?_
  clear hH
  intro w32 hH
  (try simp only [nf, nh, Value.cells, arrB_set] at hH ⊢)
  refine plan_nil hH ?_
  clear hH
  intro w33 hH
  refine hK24 _ _ ?_
  (try clear hK24 K24)
  refine wp_seq_k ?_
  intro K34 hK34
  refine wrt [.p 0, .p 1] ?_
  refine pm (pa ?_);simp only [nf]
  refine plan_nil hH ?_
  clear hH
  intro w35 hH
  refine hK34 _ _ ?_
  (try clear hK34 K34)
  refine wp_ret ?_
  (try simp only [Exit.then, Exit.inBlock, ↓reduceIte, Nat.reduceEqDiff])
  refine BP.ret1 rfl rfl ?_
  exact ⟨_, rfl, hH.chg, (hH.mine 3 rfl).resolve_right (by simp), (hH.say 3 rfl (arr8_congr fun i _ => by unfold maskF; rw [if_neg (fun e => bne_iff_ne.1 e hq)]; rfl)).blk 3 rfl⟩
theorem u8_all (P : UInt8 → Bool) (h : ((List.range 256).all fun i => P (UInt8.ofNat i)) = true) (x : UInt8) : P x = true := by
  have := List.all_eq_true.1 h x.toNat (List.mem_range.2 x.toNat_lt)
  rwa [UInt8.ofNat_toNat] at this
theorem mask_head (K l : List UInt8) (p : Nat) : (maskL K l p).getD 0 0 = if l.getD 0 0 &&& 128 != 0 then maskR K l p 0 &&& 15 else maskR K l p 0 &&& 31 := by
  unfold maskL
  rw [cut16 _ (by decide)]
  unfold maskF; rw [upd_same]
end Go.Proofs.YtdkjdioccpoacaaDoor
set_option linter.unusedSimpArgs false
set_option linter.unusedVariables false
set_option maxRecDepth 100000
set_option maxHeartbeats 4000000
namespace Go.Proofs.YtdkjdioccpoacaaDoor
open Go
open List (getD_cons_zero getD_cons_succ set_cons_zero set_cons_succ)
def keyF16 (a : ByteArray) : Nat → UInt8 := kexp fun i => a.data.toList.getD i 0
def sealBody (a b : ByteArray) (hl : List UInt8) (n : Nat) (cl : List UInt8) : List UInt8 := hl ++ sealedL (keyF16 a) (hP (keyF16 a)) (nonL b.data.toList n 8) hl cl
def sealOut (a b c : ByteArray) (hl : List UInt8) (sz n : Nat) (cl : List UInt8) : List UInt8 :=
  hideL (sealBody a b hl n cl) (maskL c.data.toList (sealBody a b hl n cl) (hl.length - sz)) (hl.length - sz) sz
def sealE (a b c : ByteArray) (hl : List UInt8) (size number : Int) (cn : Nat) : Nat :=
  if 1 ≤ size ∧ size ≤ 4 ∧ 0 ≤ number ∧ number ≤ 4611686018427387903 ∧ rightB a b c = true ∧ size + 1 ≤ hl.length then
    if (hl.getD 0 0).toNat % 4 = size.toNat - 1 ∧ lowN (hl.drop (hl.length - size.toNat)) size.toNat = number.toNat % 2 ^ (8 * size.toNat) then
      if cn + size.toNat < 4 then 3 else if 65000 < cn then 5 else 0
    else 2
  else 1
theorem rightB_is {a b c : ByteArray} (h : rightB a b c = true) : a.size = 16 ∧ b.size = 12 ∧ c.size = 16 := by
  unfold rightB at h
  simpa using h
theorem u8_and3 (x : UInt8) : (x &&& 3).toNat = x.toNat % 4 := eq_of_beq (u8_all (fun x => (x &&& 3).toNat == x.toNat % 4) (by decide) x)
theorem lowN_succ (l : List UInt8) (n : Nat) : lowN l (n + 1) = lowN l n * 256 + (l.getD n 0).toNat := by
  show lowN l n * 2 ^ 8 ||| _ = _
  rw [Nat.mul_comm, ← Nat.two_pow_add_eq_or_of_lt (lt_u8 _), Nat.mul_comm]
theorem sealBody_len (a b : ByteArray) (hl : List UInt8) (n : Nat) (cl : List UInt8) : (sealBody a b hl n cl).length = hl.length + (cl.length + 16) := by
  unfold sealBody; rw [List.length_append, sealedL_len]
theorem sealOut_len (a b c : ByteArray) (hl : List UInt8) (sz n : Nat) (cl : List UInt8) : (sealOut a b c hl sz n cl).length = hl.length + (cl.length + 16) := by
  unfold sealOut; rw [hideL_len, sealBody_len]
theorem gseal_calls (a b c : ByteArray) (hv cv : Value) (hl cl : List UInt8) (size number : Int) (w : World) (hh : Sl w hv hl) (hcl : Sl w cv cl) (hl1 : hl.length ≤ 100000) (hl2 : cl.length ≤ 100000) (hs1 : -9223372036854775808 ≤ size) (hs2 : size ≤ 9223372036854775807) : Ret Tryd.prog 11 #[.agg #[.string a, .string b, .string c], hv, I64 size, I64 number, cv] w fun v w' => (sealE a b c hl size number cl.length = 0 → ∃ o cap cs, v = .tuple #[own o (hl.length + (cl.length + 16)) cap, I64 (0 : Nat)] ∧ Chg [] w w' ∧ OwnC o (hl.length + (cl.length + 16)) cap 1 cs ((sealOut a b c hl size.toNat number.toNat cl).map V8) ∧ ∀ b, o = some b → w.heap.size ≤ b ∧ Blk w' b 5 cs) ∧ ∀ e, sealE a b c hl size number cl.length = e → e ≠ 0 → v = .tuple #[.slice none 0 0, I64 (e : Nat)] ∧ Chg [] w w' := by
 refine Ret.enter Tryd.func11 rfl ?_
 simp only [Tryd.ntmps11, fe, Nat.reduceAdd, Nat.reduceSub]
 have hH := Hp.start [] w
 refine wp_seq_k ?_
 intro K1 hK1
 refine wrt [.x 0, .p 1, .p 2] ?_
 refine plan_box rfl rfl hH rfl ?_
 clear hH
 intro b2 w3 hH
 (try simp only [nf, nh, Value.cells, arrB_set] at hH ⊢)
 refine pa (pka 0 ?_);simp only [nf]
 refine plan_nil hH ?_
 clear hH
 intro w4 hH
 refine hK1 _ _ ?_
 (try clear hK1 K1)
 refine wp_seq_k ?_
 intro K5 hK5
 refine wp_seq_k ?_
 intro K6 hK6
 refine wrt [.p 0, .p 1, .p 2, .p 3, .p 4, .p 5, .p 6, .p 7, .p 8, .p 9, .p 10, .p 11, .p 12, .p 13, .p 14, .q 15, .q 16, .p 17, .p 18, .p 19, .p 20, .p 21, .p 22, .p 23, .p 24, .p 25] ?_
 refine pm ?_;simp only [nf]
 refine pp rfl rfl (pr_bin rfl rfl (by first | exact bin_lss_n (n := 1)  | exact bin_lss_i)) ?_;simp only [nf]
 refine pm ?_;simp only [nf]
 refine plan_pc_f rfl rfl rfl (fun hb => by have hb' := hb; try simp only [gsl] at hb'; rw [hb]; exact pr_move) ?_
 (try simp only [nf])
 refine plan_pc_f rfl rfl rfl (fun hb => by have hb' := hb; try simp only [gsl] at hb'; rw [hb]; exact (pr_bin rfl rfl (by first | exact bin_gtr_n (n := 4)  | exact bin_gtr_i))) ?_
 (try simp only [nf])
 refine pp rfl rfl (pr_pick_or rfl rfl rfl) ?_;simp only [nf]
 refine pm ?_;simp only [nf]
 refine plan_pc_f rfl rfl rfl (fun hb => by have hb' := hb; try simp only [gsl] at hb'; rw [hb]; exact pr_move) ?_
 (try simp only [nf])
 refine plan_pc_f rfl rfl rfl (fun hb => by have hb' := hb; try simp only [gsl] at hb'; rw [hb]; exact (pr_bin rfl rfl (by first | exact bin_lss_n (n := 0)  | exact bin_lss_i))) ?_
 (try simp only [nf])
 refine pp rfl rfl (pr_pick_or rfl rfl rfl) ?_;simp only [nf]
 refine pm ?_;simp only [nf]
 refine plan_pc_f rfl rfl rfl (fun hb => by have hb' := hb; try simp only [gsl] at hb'; rw [hb]; exact pr_move) ?_
 (try simp only [nf])
 refine plan_pc_f rfl rfl rfl (fun hb => by have hb' := hb; try simp only [gsl] at hb'; rw [hb]; exact (pr_bin rfl rfl (by first | exact bin_gtr_n (n := 4611686018427387903)  | exact bin_gtr_i))) ?_
 (try simp only [nf])
 refine pp rfl rfl (pr_pick_or rfl rfl rfl) ?_;simp only [nf]
 refine pm ?_;simp only [nf]
 refine plan_qc_f rfl rfl rfl (fun hb => by have hb' := hb; try simp only [gsl] at hb'; rw [hb]; exact (qr_loadW rfl (hH.blk 0 rfl) Tryd.underlying33 rfl sz33 (by simp))) ?_
 (try simp only [nf])
 refine plan_qc_f rfl rfl rfl (fun hb => by have hb' := hb; try simp only [gsl] at hb'; rw [hb]; exact (qr_call cf27 (fun w' hw => right_calls _ _ _ w') rfl)) ?_
 (try simp only [nf])
 refine plan_pc_f rfl rfl rfl (fun hb => by have hb' := hb; try simp only [gsl] at hb'; rw [hb]; exact (pr_not rfl)) ?_
 (try simp only [nf])
 refine pp rfl rfl (pr_pick_or rfl rfl rfl) ?_;simp only [nf]
 refine pm ?_;simp only [nf]
 refine plan_pc_f rfl rfl rfl (fun hb => by have hb' := hb; try simp only [gsl] at hb'; rw [hb]; exact pr_move) ?_
 (try simp only [nf])
 refine plan_pc_f rfl rfl rfl (fun hb => by have hb' := hb; try simp only [gsl] at hb'; rw [hb]; exact (pr_len_Sl (hh.chg hH.chg) rfl Tryd.underlying29)) ?_
 (try simp only [nf])
 refine plan_pc_f rfl rfl rfl (fun hb => by have hb' := hb; try simp only [gsl] at hb'; rw [hb]; exact pr_move) ?_
 (try simp only [nf])
 refine plan_pc_f rfl rfl rfl (fun hb => by have hb' := hb; try simp only [gsl] at hb'; rw [hb]; exact (pr_bin rfl rfl (by first | exact bin_add_n (n := 1) (by first | omega | (first | (simp only [List.length_drop, List.length_append, sealedL_len] at *; omega) | (have := lt_u8 (hl.getD 0 0 &&& 3); omega))) | exact bin_add_i (by first | omega | (first | (simp only [List.length_drop, List.length_append, sealedL_len] at *; omega) | (have := lt_u8 (hl.getD 0 0 &&& 3); omega))) (by first | omega | (first | (simp only [List.length_drop, List.length_append, sealedL_len] at *; omega) | (have := lt_u8 (hl.getD 0 0 &&& 3); omega)))))) ?_
 (try simp only [nf])
 refine plan_pc_f rfl rfl rfl (fun hb => by have hb' := hb; try simp only [gsl] at hb'; rw [hb]; exact (pr_bin rfl rfl (by first | exact bin_lss_n  | exact bin_lss_i))) ?_
 (try simp only [nf])
 refine pp rfl rfl (pr_pick_or rfl rfl rfl) ?_;simp only [nf]
 refine plan_nil hH ?_
 clear hH
 intro w7 hH
 refine hK6 _ _ ?_
 (try clear hK6 K6)
 refine wp_cond_split rfl (fun hc8 => ?_) (fun hc8 => ?_)
 ·
  (try simp only [cnd, gsl] at hc8)
  have hq := hc8
  refine wp_seq_k ?_
  intro K9 hK9
  refine wrt [.p 0, .p 1] ?_
  refine pa (pka 1 ?_);simp only [nf]
  refine plan_nil hH ?_
  clear hH
  intro w10 hH
  refine hK9 _ _ ?_
  (try clear hK9 K9)
  refine wp_ret ?_
  (try simp only [Exit.then, Exit.inBlock, ↓reduceIte, Nat.reduceEqDiff])
  refine BP.ret2 rfl rfl rfl ?_
  have he : sealE a b c hl size number cl.length = 1 := by
    unfold sealE
    rw [if_neg (fun h => by obtain ⟨h1, h2, h3, h4, h5, h6⟩ := h; rcases hq with ((((hq | hq) | hq) | hq) | hq) | hq <;> first | omega | (rw [h5] at hq; cases hq))]
  exact ⟨fun h => by (rw [he] at h; cases h), fun e h1 _ => by (rw [he] at h1; subst h1; exact ⟨rfl, hH.chg⟩)⟩
 ·
  (try simp only [cnd, gsl] at hc8)
  have hq := hc8
  have hok : 1 ≤ size ∧ size ≤ 4 ∧ 0 ≤ number ∧ number ≤ 4611686018427387903 ∧ rightB a b c = true ∧ size + 1 ≤ hl.length := ⟨by omega, by omega, by omega, by omega, hq.1.2, by first | omega | (rw [str_len]; omega)⟩
  obtain ⟨ha, hb, hc⟩ := rightB_is hok.2.2.2.2.1
  obtain ⟨sz, rfl⟩ : ∃ k : Nat, size = k := ⟨size.toNat, by omega⟩
  obtain ⟨nu, rfl⟩ : ∃ k : Nat, number = k := ⟨number.toNat, by omega⟩
  have hm : ((sz : Nat) : Int).toNat = sz := by omega
  have hnm : ((nu : Nat) : Int).toNat = nu := by omega
  obtain ⟨hw1, hw2, hw3⟩ := pow_size sz (by omega) (by omega)
  have hsz1 : 1 ≤ sz := by omega
  have hsz4 : sz ≤ 4 := by omega
  refine wp_skip ?_
  refine hK5 _ _ ?_
  (try clear hK5 K5)
  refine wp_seq_k ?_
  intro K11 hK11
  refine wp_seq_k ?_
  intro K12 hK12
  refine wrp [.p 0, .p 1, .p 5, .p 6, .q 2, .p 3, .p 4, .p 7, .p 8, .p 9, .p 10, .p 11, .p 12, .p 13, .p 14, .p 16, .p 17, .p 18, .p 19, .p 20, .p 21, .q 15, .p 22, .p 23] ?_
  refine pm ?_;simp only [nf]
  refine pp rfl rfl (pr_idx_Sl (i := 0) (hh.chg hH.chg) rfl rfl Tryd.underlying29 sz5 (by first | omega | (first | (simp only [List.length_drop, List.length_append, sealedL_len] at *; omega) | (have := lt_u8 (hl.getD 0 0 &&& 3); omega)))) ?_;simp only [nf]
  refine pm ?_;simp only [nf]
  refine pp rfl rfl (pr_bin rfl rfl (by first | exact bin_sub_n (n := 1) (by first | omega | (first | (simp only [List.length_drop, List.length_append, sealedL_len] at *; omega) | (have := lt_u8 (hl.getD 0 0 &&& 3); omega))) (by first | omega | (first | (simp only [List.length_drop, List.length_append, sealedL_len] at *; omega) | (have := lt_u8 (hl.getD 0 0 &&& 3); omega))) | exact bin_sub_i (by first | omega | (first | (simp only [List.length_drop, List.length_append, sealedL_len] at *; omega) | (have := lt_u8 (hl.getD 0 0 &&& 3); omega))) (by first | omega | (first | (simp only [List.length_drop, List.length_append, sealedL_len] at *; omega) | (have := lt_u8 (hl.getD 0 0 &&& 3); omega))))) ?_;simp only [nf]
  refine pq rfl rfl (qr_load1 rfl Tryd.underlying5 rfl (Sl.cell (i := 0) (hh.chg hH.chg) (by first | omega | (first | (simp only [List.length_drop, List.length_append, sealedL_len] at *; omega) | (have := lt_u8 (hl.getD 0 0 &&& 3); omega))))) ?_;simp only [nf]
  refine pp rfl rfl (pr_bin rfl rfl (bin_and_u8 _ 3)) ?_;simp only [nf]
  refine pp rfl rfl (pr_conv rfl (cnv_u8_n _ Tryd.underlying5 Tryd.underlying3)) ?_;simp only [nf]
  refine pp rfl rfl (pr_bin rfl rfl (by first | exact bin_neq_n  | exact bin_neq_i)) ?_;simp only [nf]
  refine pm ?_;simp only [nf]
  refine plan_pc_f rfl rfl rfl (fun hb => by have hb' := hb; try simp only [gsl] at hb'; rw [hb]; exact pr_move) ?_
  (try simp only [nf])
  refine plan_pc_f rfl rfl rfl (fun hb => by have hb' := hb; try simp only [gsl] at hb'; rw [hb]; exact pr_move) ?_
  (try simp only [nf])
  refine plan_pc_f rfl rfl rfl (fun hb => by have hb' := hb; try simp only [gsl] at hb'; rw [hb]; exact (pr_len_Sl (hh.chg hH.chg) rfl Tryd.underlying29)) ?_
  (try simp only [nf])
  refine plan_pc_f rfl rfl rfl (fun hb => by have hb' := hb; try simp only [gsl] at hb'; rw [hb]; exact pr_move) ?_
  (try simp only [nf])
  refine plan_pc_f rfl rfl rfl (fun hb => by have hb' := hb; try simp only [gsl] at hb'; rw [hb]; exact (pr_bin rfl rfl (by first | exact bin_sub_n (by first | omega | (first | (simp only [List.length_drop, List.length_append, sealedL_len] at *; omega) | (have := lt_u8 (hl.getD 0 0 &&& 3); omega))) (by first | omega | (first | (simp only [List.length_drop, List.length_append, sealedL_len] at *; omega) | (have := lt_u8 (hl.getD 0 0 &&& 3); omega))) | exact bin_sub_i (by first | omega | (first | (simp only [List.length_drop, List.length_append, sealedL_len] at *; omega) | (have := lt_u8 (hl.getD 0 0 &&& 3); omega))) (by first | omega | (first | (simp only [List.length_drop, List.length_append, sealedL_len] at *; omega) | (have := lt_u8 (hl.getD 0 0 &&& 3); omega)))))) ?_
  (try simp only [nf])
  refine plan_pc_f rfl rfl rfl (fun hb => by have hb' := hb; try simp only [gsl] at hb'; rw [hb]; exact (pr_slice_Sl_l (hh.chg hH.chg) rfl rfl Tryd.underlying29 sz5 (by first | omega | (first | (simp only [List.length_drop, List.length_append, sealedL_len] at *; omega) | (have := lt_u8 (hl.getD 0 0 &&& 3); omega))))) ?_
  (try simp only [nf])
  refine plan_pc_f rfl rfl rfl (fun hb => by have hb' := hb; try simp only [gsl] at hb'; rw [hb]; exact pr_move) ?_
  (try simp only [nf])
  refine plan_pc_f rfl rfl rfl (fun hb => by have hb' := hb; try simp only [gsl] at hb'; rw [hb]; exact pr_move) ?_
  (try simp only [nf])
  refine plan_pc_f rfl rfl rfl (fun hb => by have hb' := hb; try simp only [gsl] at hb'; rw [hb]; exact (pr_bin rfl rfl (by first | exact bin_mul_n (m := 8) (by first | omega | (first | (simp only [List.length_drop, List.length_append, sealedL_len] at *; omega) | (have := lt_u8 (hl.getD 0 0 &&& 3); omega))) | exact bin_mul_i (by first | omega | (first | (simp only [List.length_drop, List.length_append, sealedL_len] at *; omega) | (have := lt_u8 (hl.getD 0 0 &&& 3); omega))) (by first | omega | (first | (simp only [List.length_drop, List.length_append, sealedL_len] at *; omega) | (have := lt_u8 (hl.getD 0 0 &&& 3); omega)))))) ?_
  (try simp only [nf])
  refine plan_pc_f rfl rfl rfl (fun hb => by have hb' := hb; try simp only [gsl] at hb'; rw [hb]; exact (pr_bin rfl rfl (bin_shl_n (m := 1) (by first | omega | (first | (simp only [List.length_drop, List.length_append, sealedL_len] at *; omega) | (have := lt_u8 (hl.getD 0 0 &&& 3); omega))) (by first | omega | (first | (simp only [List.length_drop, List.length_append, sealedL_len] at *; omega) | (have := lt_u8 (hl.getD 0 0 &&& 3); omega)))))) ?_
  (try simp only [nf])
  refine plan_pc_f rfl rfl rfl (fun hb => by have hb' := hb; try simp only [gsl] at hb'; rw [hb]; exact (pr_bin rfl rfl (by first | exact bin_sub_n (n := 1) (by first | omega | (first | (simp only [List.length_drop, List.length_append, sealedL_len] at *; omega) | (have := lt_u8 (hl.getD 0 0 &&& 3); omega))) (by first | omega | (first | (simp only [List.length_drop, List.length_append, sealedL_len] at *; omega) | (have := lt_u8 (hl.getD 0 0 &&& 3); omega))) | exact bin_sub_i (by first | omega | (first | (simp only [List.length_drop, List.length_append, sealedL_len] at *; omega) | (have := lt_u8 (hl.getD 0 0 &&& 3); omega))) (by first | omega | (first | (simp only [List.length_drop, List.length_append, sealedL_len] at *; omega) | (have := lt_u8 (hl.getD 0 0 &&& 3); omega)))))) ?_
  (try simp only [nf])
  refine plan_pc_f rfl rfl rfl (fun hb => by have hb' := hb; try simp only [gsl] at hb'; rw [hb]; exact (pr_bin rfl rfl (by first | exact bin_and_n (by first | omega | (first | (simp only [List.length_drop, List.length_append, sealedL_len] at *; omega) | (have := lt_u8 (hl.getD 0 0 &&& 3); omega))) (by first | omega | (first | (simp only [List.length_drop, List.length_append, sealedL_len] at *; omega) | (have := lt_u8 (hl.getD 0 0 &&& 3); omega)))))) ?_
  (try simp only [nf])
  refine plan_qc_f rfl rfl rfl (fun hb => by have hb' := hb; try simp only [gsl] at hb'; rw [hb]; exact (qr_call cf28 (fun w' hw => low_calls _ _ w' ((Sl.cutl (hh.chg hH.chg) (by first | omega | (first | (simp only [List.length_drop, List.length_append, sealedL_len] at *; omega) | (have := lt_u8 (hl.getD 0 0 &&& 3); omega)))).chg hw) (by rw [List.length_drop]; omega)) rfl)) ?_
  (try simp only [nf])
  refine plan_pc_f rfl rfl rfl (fun hb => by have hb' := hb; try simp only [gsl] at hb'; rw [hb]; exact (pr_bin rfl rfl (by first | exact bin_neq_n  | exact bin_neq_i))) ?_
  (try simp only [nf])
  refine pp rfl rfl (pr_pick_or rfl rfl rfl) ?_;simp only [nf]
  refine plan_nil hH ?_
  clear hH
  intro w13 hH
  refine hK12 _ _ ?_
  (try clear hK12 K12)
  refine wp_cond_split rfl (fun hc14 => ?_) (fun hc14 => ?_)
  ·
   (try simp only [cnd, gsl] at hc14)
   have hf := hc14
   refine wp_seq_k ?_
   intro K15 hK15
   refine wrt [.p 0, .p 1] ?_
   refine pa (pka 2 ?_);simp only [nf]
   refine plan_nil hH ?_
   clear hH
   intro w16 hH
   refine hK15 _ _ ?_
   (try clear hK15 K15)
   refine wp_ret ?_
   (try simp only [Exit.then, Exit.inBlock, ↓reduceIte, Nat.reduceEqDiff])
   refine BP.ret2 rfl rfl rfl ?_
   have he : sealE a b c hl (sz : Nat) (nu : Nat) cl.length = 2 := by
     unfold sealE
     rw [if_pos hok, hm, hnm, if_neg (fun h => by (obtain ⟨h1, h2⟩ := h; rw [u8_and3, Nat.one_mul, Nat.and_two_pow_sub_one_eq_mod, List.length_drop] at hf; rw [show hl.length - (hl.length - sz) = sz by omega] at hf; rcases hf with hf | hf <;> first | exact hf h1 | exact hf h2))]
   exact ⟨fun h => by (rw [he] at h; cases h), fun e h1 _ => by (rw [he] at h1; subst h1; exact ⟨rfl, hH.chg⟩)⟩
  ·
   (try simp only [cnd, gsl] at hc14)
   have hf := hc14
   refine wp_skip ?_
   refine hK11 _ _ ?_
   (try clear hK11 K11)
   refine wp_seq_k ?_
   intro K17 hK17
   refine wp_block ?_
   refine wp_seq_k ?_
   intro K18 hK18
   refine wrt [.p 0, .p 1, .p 2, .p 3, .p 4, .p 5] ?_
   refine pm ?_;simp only [nf]
   refine pp rfl rfl (pr_len_Sl (hcl.chg hH.chg) rfl Tryd.underlying29) ?_;simp only [nf]
   refine pm ?_;simp only [nf]
   refine pp rfl rfl (pr_bin rfl rfl (by first | exact bin_sub_n (m := 4) (by first | omega | (first | (simp only [List.length_drop, List.length_append, sealedL_len] at *; omega) | (have := lt_u8 (hl.getD 0 0 &&& 3); omega))) (by first | omega | (first | (simp only [List.length_drop, List.length_append, sealedL_len] at *; omega) | (have := lt_u8 (hl.getD 0 0 &&& 3); omega))) | exact bin_sub_i (by first | omega | (first | (simp only [List.length_drop, List.length_append, sealedL_len] at *; omega) | (have := lt_u8 (hl.getD 0 0 &&& 3); omega))) (by first | omega | (first | (simp only [List.length_drop, List.length_append, sealedL_len] at *; omega) | (have := lt_u8 (hl.getD 0 0 &&& 3); omega))))) ?_;simp only [nf]
   refine pp rfl rfl (pr_bin rfl rfl (by first | exact bin_lss_n  | exact bin_lss_i)) ?_;simp only [nf]
   refine pa ?_;simp only [nf]
   refine plan_nil hH ?_
   clear hH
   intro w19 hH
   refine hK18 _ _ ?_
   (try clear hK18 K18)
   refine wp_cond_split rfl (fun hc20 => ?_) (fun hc20 => ?_)
   ·
    (try simp only [cnd, gsl] at hc20)
    have ht := hc20
    refine wp_seq_k ?_
    intro K21 hK21
    refine wrt [.p 0, .p 1] ?_
    refine pa (pka 3 ?_);simp only [nf]
    refine plan_nil hH ?_
    clear hH
    intro w22 hH
    refine hK21 _ _ ?_
    (try clear hK21 K21)
    refine wp_ret ?_
    (try simp only [Exit.then, Exit.inBlock, ↓reduceIte, Nat.reduceEqDiff])
    refine BP.ret2 rfl rfl rfl ?_
    have hform : (hl.getD 0 0).toNat % 4 = sz - 1 ∧ lowN (hl.drop (hl.length - sz)) sz = nu % 2 ^ (8 * sz) := by
      rw [u8_and3, Nat.one_mul, Nat.and_two_pow_sub_one_eq_mod, List.length_drop] at hf
      rw [show hl.length - (hl.length - sz) = sz by omega] at hf
      exact hf
    have he : sealE a b c hl (sz : Nat) (nu : Nat) cl.length = 3 := by
      unfold sealE
      rw [if_pos hok, hm, hnm, if_pos hform, if_pos (by omega)]
    exact ⟨fun h => by (rw [he] at h; cases h), fun e h1 _ => by (rw [he] at h1; subst h1; exact ⟨rfl, hH.chg⟩)⟩
   ·
    (try simp only [cnd, gsl] at hc20)
    have ht := hc20
    refine wp_seq_k ?_
    intro K23 hK23
    refine wrt [.p 0, .p 1, .p 2, .p 3] ?_
    refine pm ?_;simp only [nf]
    refine pp rfl rfl (pr_len_Sl (hcl.chg hH.chg) rfl Tryd.underlying29) ?_;simp only [nf]
    refine pp rfl rfl (pr_bin rfl rfl (by first | exact bin_gtr_n (n := 65000)  | exact bin_gtr_i)) ?_;simp only [nf]
    refine pa ?_;simp only [nf]
    refine plan_nil hH ?_
    clear hH
    intro w24 hH
    refine hK23 _ _ ?_
    (try clear hK23 K23)
    refine wp_cond_split rfl (fun hc25 => ?_) (fun hc25 => ?_)
    ·
     (try simp only [cnd, gsl] at hc25)
     have hbg := hc25
     refine wp_seq_k ?_
     intro K26 hK26
     refine wrt [.p 0, .p 1] ?_
     refine pa (pka 5 ?_);simp only [nf]
     refine plan_nil hH ?_
     clear hH
     intro w27 hH
     refine hK26 _ _ ?_
     (try clear hK26 K26)
     refine wp_ret ?_
     (try simp only [Exit.then, Exit.inBlock, ↓reduceIte, Nat.reduceEqDiff])
     refine BP.ret2 rfl rfl rfl ?_
     have hform : (hl.getD 0 0).toNat % 4 = sz - 1 ∧ lowN (hl.drop (hl.length - sz)) sz = nu % 2 ^ (8 * sz) := by
       rw [u8_and3, Nat.one_mul, Nat.and_two_pow_sub_one_eq_mod, List.length_drop] at hf
       rw [show hl.length - (hl.length - sz) = sz by omega] at hf
       exact hf
     have he : sealE a b c hl (sz : Nat) (nu : Nat) cl.length = 5 := by
       unfold sealE
       rw [if_pos hok, hm, hnm, if_pos hform, if_neg (by omega), if_pos (by omega)]
     exact ⟨fun h => by (rw [he] at h; cases h), fun e h1 _ => by (rw [he] at h1; subst h1; exact ⟨rfl, hH.chg⟩)⟩
    ·
     (try simp only [cnd, gsl] at hc25)
     have hbg := hc25
     refine wp_skip ?_
     refine hK17 _ _ ?_
     (try clear hK17 K17)
     refine wp_seq_k ?_
     intro K28 hK28
     refine wrt [.p 0, .q 1, .x 2, .x 3, .p 4, .p 5, .p 6, .p 7, .p 8] ?_
     refine pp rfl rfl (pr_fieldAddr 0 rfl Tryd.underlying33 rfl rfl sz9) ?_;simp only [nf]
     refine pq rfl rfl (qr_load1 rfl Tryd.underlying9 rfl ((hH.blk 0 rfl).cell rfl)) ?_;simp only [nf]
     refine plan_s2b rfl rfl hH rfl Tryd.underlying9 Tryd.underlying29 Tryd.underlying5 ?_
     clear hH
     intro b29 cap30 cs31 w32 hO33 hH
     (try simp only [nf] at hH ⊢)
     (try simp only [nf, nh, Value.cells, arrB_set] at hH ⊢)
     refine plan_callx rfl rfl hH cf29 (fun w' hH => gnew_calls _ _ w' (OwnC.sl hH 1 rfl hO33) (by simpa using ha)) rfl (fun _ _ _ h => by obtain ⟨_, _, _, hg, _⟩ := h; exact hg) ?_
     clear hH
     intro w34 v35 w36 hH hp37
     obtain ⟨b38, b39, rfl, hg, hfc, hbc, hfx, hbx, hne⟩ := hp37
     replace hH := hH.callnew2 hg hbc hfc hbx hfx hne
     clear hg hfc hbc hfx hbx hne
     (try simp only [nf, nh, Value.cells, arrB_set] at hH ⊢)
     (try simp only [nf])
     refine pm ?_;simp only [nf]
     refine pp rfl rfl (pr_extract rfl rfl) ?_;simp only [nf]
     refine pp rfl rfl (pr_extract rfl rfl) ?_;simp only [nf]
     refine pa (pa ?_);simp only [nf]
     refine plan_nil hH ?_
     clear hH
     intro w40 hH
     refine hK28 _ _ ?_
     (try clear hK28 K28)
     refine wp_seq_k ?_
     intro K41 hK41
     refine wp_seq_k ?_
     intro K42 hK42
     refine wrt [.p 0, .p 1] ?_
     refine pm ?_;simp only [nf]
     refine pp rfl rfl (pr_bin rfl rfl (by first | exact bin_neq_n (n := 0)  | exact bin_neq_i)) ?_;simp only [nf]
     refine plan_nil hH ?_
     clear hH
     intro w43 hH
     refine hK42 _ _ ?_
     (try clear hK42 K42)
     refine wp_cond_false rfl ?_
     refine wp_skip ?_
     refine hK41 _ _ ?_
     (try clear hK41 K41)
     refine wp_seq_k ?_
     intro K44 hK44
     refine wrt [.p 0, .q 1, .p 2, .x 3, .p 4, .p 5, .x 6, .p 7, .p 8, .p 9, .p 10, .p 11] ?_
     refine pm ?_;simp only [nf]
     refine pq rfl rfl (qr_loadW rfl (hH.blk 0 rfl) Tryd.underlying33 rfl sz33 (by simp)) ?_;simp only [nf]
     refine pm ?_;simp only [nf]
     refine plan_callx rfl rfl hH cf31 (fun w' hH => nonce_calls _ _ _ _ w' hb (by omega)) rfl (fun _ _ _ h => by obtain ⟨_, _, _, _, hg, _⟩ := h; exact hg) ?_
     clear hH
     intro w45 v46 w47 hH hp48
     obtain ⟨o49, cap50, cs51, rfl, hg, hO52, hfr⟩ := hp48
     replace hH := hH.callown hg hfr
     clear hg hfr
     (try simp only [nf, nh, Value.cells, arrB_set] at hH ⊢)
     (try simp only [nf])
     refine pm (pm ?_);simp only [nf]
     refine plan_callx rfl rfl hH cf30 (fun w' hH => Seal_calls _ _ _ (hP _) _ _ _ _ _ _ w' (hH.blk 3 rfl) (hH.blk 2 rfl) (OwnC.sl hH 4 rfl hO52) (by rw [nonL_len]; simpa using hb) (hh.chg hH.chg) (hcl.chg hH.chg) (by omega)) rfl (fun _ _ _ h => by obtain ⟨_, _, _, _, hg, _⟩ := h; exact hg) ?_
     clear hH
     intro w53 v54 w55 hH hp56
     obtain ⟨o57, cap58, cs59, rfl, hg, hO60, hfr⟩ := hp56
     replace hH := hH.callown hg hfr
     clear hg hfr
     (try simp only [nf, nh, Value.cells, arrB_set] at hH ⊢)
     (try simp only [nf])
     refine pm ?_;simp only [nf]
     refine pp rfl rfl (pr_extract rfl rfl) ?_;simp only [nf]
     refine pp rfl rfl (pr_extract rfl rfl) ?_;simp only [nf]
     refine pa (pa ?_);simp only [nf]
     refine plan_nil hH ?_
     clear hH
     intro w61 hH
     refine hK44 _ _ ?_
     (try clear hK44 K44)
     refine wp_seq_k ?_
     intro K62 hK62
     refine wp_seq_k ?_
     intro K63 hK63
     refine wrt [.p 0, .p 1] ?_
     refine pm ?_;simp only [nf]
     refine pp rfl rfl (pr_bin rfl rfl (by first | exact bin_neq_n (n := 0)  | exact bin_neq_i)) ?_;simp only [nf]
     refine plan_nil hH ?_
     clear hH
     intro w64 hH
     refine hK63 _ _ ?_
     (try clear hK63 K63)
     refine wp_cond_false rfl ?_
     refine wp_skip ?_
     refine hK62 _ _ ?_
     (try clear hK62 K62)
     refine wp_seq_k ?_
     intro K65 hK65
     refine wrt [.p 0, .x 1, .p 2, .e 3, .p 4] ?_
     refine pm ?_;simp only [nf]
     refine plan_callx rfl rfl hH cf32 (fun w' hH => clone_calls _ _ w' (hh.chg hH.chg) (by first | assumption | (apply List.ne_nil_of_length_pos; omega)) (by first | omega | (simp <;> omega))) rfl (fun _ _ _ h => by obtain ⟨_, _, _, _, hg, _⟩ := h; exact hg) ?_
     clear hH
     intro w66 v67 w68 hH hp69
     obtain ⟨o70, cap71, cs72, rfl, hg, hO73, hfr⟩ := hp69
     replace hH := hH.callown hg hfr
     clear hg hfr
     (try simp only [nf, nh, Value.cells, arrB_set] at hH ⊢)
     (try simp only [nf])
     refine pm ?_;simp only [nf]
     refine plan_append 6 rfl rfl hH rfl hO73 (fun w' hH => ((OwnC.sl hH 5 rfl hO60)).src) rfl rfl Tryd.underlying29 Tryd.underlying29 (.inl ⟨_, rfl⟩) sz5 bz5 ze5 rfl (by first | omega | (rw [sealedL_len]; omega)) (by first | omega | (rw [sealedL_len]; omega)) ?_
     clear hH
     intro o74 cap75 cs76 w77 hO78 hH
     (try simp only [nf] at hH ⊢)
     (try simp only [nf, nh, Value.cells, arrB_set] at hH ⊢)
     try rw [← List.map_append] at hO78
     (try simp only [Nat.zero_add, List.nil_append, List.length_nil] at hO78 ⊢)
     refine pa ?_;simp only [nf]
     refine plan_nil hH ?_
     clear hH
     intro w79 hH
     simp only [sealedL_len] at hO78 ⊢
     obtain ⟨b80, rfl⟩ := OwnC.some hO78 (by omega)
     refine hK65 _ _ ?_
     (try clear hK65 K65)
     refine wp_seq_k ?_
     intro K81 hK81
     refine wrt [.p 0, .p 1, .p 2, .p 3, .p 4] ?_
     refine pm ?_;simp only [nf]
     refine pp rfl rfl (pr_len_Sl (hh.chg hH.chg) rfl Tryd.underlying29) ?_;simp only [nf]
     refine pm ?_;simp only [nf]
     refine pp rfl rfl (pr_bin rfl rfl (by first | exact bin_sub_n (by first | omega | (first | (simp only [List.length_drop, List.length_append, sealedL_len] at *; omega) | (have := lt_u8 (hl.getD 0 0 &&& 3); omega))) (by first | omega | (first | (simp only [List.length_drop, List.length_append, sealedL_len] at *; omega) | (have := lt_u8 (hl.getD 0 0 &&& 3); omega))) | exact bin_sub_i (by first | omega | (first | (simp only [List.length_drop, List.length_append, sealedL_len] at *; omega) | (have := lt_u8 (hl.getD 0 0 &&& 3); omega))) (by first | omega | (first | (simp only [List.length_drop, List.length_append, sealedL_len] at *; omega) | (have := lt_u8 (hl.getD 0 0 &&& 3); omega))))) ?_;simp only [nf]
     refine pa ?_;simp only [nf]
     refine plan_nil hH ?_
     clear hH
     intro w82 hH
     refine hK81 _ _ ?_
     (try clear hK81 K81)
     refine wp_seq_k ?_
     intro K83 hK83
     refine wrt [.p 0, .q 1, .p 2, .p 3, .x 4, .p 5, .p 6, .e 7] ?_
     refine pm ?_;simp only [nf]
     refine pq rfl rfl (qr_loadW rfl (hH.blk 0 rfl) Tryd.underlying33 rfl sz33 (by simp)) ?_;simp only [nf]
     refine pm (pm ?_);simp only [nf]
     refine plan_callx rfl rfl hH cf34 (fun w' hH => mask_calls _ _ _ _ _ _ w' (OwnC.sl hH 6 rfl hO78) hc (by rw [List.length_append, sealedL_len]; omega) (by rw [List.length_append, sealedL_len]; omega)) rfl (fun _ _ _ h => h.choose_spec.2.1) ?_
     clear hH
     intro w84 v85 w86 hH hp87
     obtain ⟨b88, rfl, hg, hfr, hbk⟩ := hp87
     replace hH := hH.callnew hg hbk hfr
     clear hg hfr hbk
     (try simp only [nf, nh, Value.cells, arrB_set] at hH ⊢)
     (try simp only [nf])
     refine pm (pm ?_);simp only [nf]
     refine plan_calle rfl rfl hH cf33 (fun w' hH => hide_calls _ _ _ _ (sealBody a b hl nu cl) (maskL c.data.toList (sealBody a b hl nu cl) (hl.length - sz)) _ (hl.length - sz) sz w' (sealBody_len a b hl nu cl) (hH.blk 6 rfl) hO78 (fun w'' hw => (Sl.of_arr8 (o := 0) (n := 16) (hw.blk (hH.blk 7 rfl) (by simp only [List.mem_singleton]; exact hH.other (i := 6) rfl (j := 7) rfl (by decide) rfl)) (by omega) (by omega)).of_eq (by simp only [Nat.zero_add]; rfl)) (by rw [sealBody_len]; omega) (by rw [sealBody_len]; omega) (by rw [maskL_len]; omega) (by rw [sealBody_len]; omega)) rfl ?_
     clear hH
     intro w89 v90 w91 hH hp92
     obtain ⟨rfl, hg, cs93, hbk, hO94⟩ := hp92
     replace hH := hH.callw 6 rfl hg hbk
     clear hg hbk
     (try simp only [nf, nh, Value.cells, arrB_set] at hH ⊢)
     refine plan_nil hH ?_
     clear hH
     intro w95 hH
     refine hK83 _ _ ?_
     (try clear hK83 K83)
     refine wp_seq_k ?_
     intro K96 hK96
     refine wrt [.p 0, .p 1, .p 2] ?_
     refine pm (pa (pka 0 ?_));simp only [nf]
     refine plan_nil hH ?_
     clear hH
     intro w97 hH
     refine hK96 _ _ ?_
     (try clear hK96 K96)
     refine wp_ret ?_
     (try simp only [Exit.then, Exit.inBlock, ↓reduceIte, Nat.reduceEqDiff])
     refine BP.ret2 rfl rfl rfl ?_
     have hform : (hl.getD 0 0).toNat % 4 = sz - 1 ∧ lowN (hl.drop (hl.length - sz)) sz = nu % 2 ^ (8 * sz) := by
       rw [u8_and3, Nat.one_mul, Nat.and_two_pow_sub_one_eq_mod, List.length_drop] at hf
       rw [show hl.length - (hl.length - sz) = sz by omega] at hf
       exact hf
     have he : sealE a b c hl (sz : Nat) (nu : Nat) cl.length = 0 := by
       unfold sealE
       rw [if_pos hok, hm, hnm, if_pos hform, if_neg (by omega), if_neg (by omega)]
     exact ⟨fun _ => ⟨_, _, _, rfl, hH.chg, (by assumption), hH.owned 6 rfl⟩, fun e h1 h2 => absurd (h1.symm.trans he) h2⟩
end Go.Proofs.YtdkjdioccpoacaaDoor
set_option linter.unusedSimpArgs false
set_option linter.unusedVariables false
set_option maxRecDepth 100000
set_option maxHeartbeats 4000000
namespace Go.Proofs.YtdkjdioccpoacaaDoor
open Go
open List (getD_cons_zero getD_cons_succ set_cons_zero set_cons_succ)
def opSz (c : ByteArray) (l : List UInt8) (p : Nat) : Nat := ((l.getD 0 0 ^^^ (maskL c.data.toList l p).getD 0 0) &&& 3).toNat + 1
def opBare (c : ByteArray) (l : List UInt8) (p : Nat) : List UInt8 := hideL l (maskL c.data.toList l p) p (opSz c l p)
def opNum (c : ByteArray) (l : List UInt8) (p e : Nat) : Nat := wholeN (lowN ((opBare c l p).drop p) (opSz c l p)) (opSz c l p) e
def opHead (c : ByteArray) (l : List UInt8) (p : Nat) : List UInt8 := (opBare c l p).take (p + opSz c l p)
def opRest (c : ByteArray) (l : List UInt8) (p : Nat) : List UInt8 := (opBare c l p).drop (p + opSz c l p)
def opBody (c : ByteArray) (l : List UInt8) (p : Nat) : List UInt8 := (opRest c l p).take ((opRest c l p).length - 16)
def opOk (a b c : ByteArray) (l : List UInt8) (p e : Nat) : Prop :=
  sealL (keyF16 a) (hP (keyF16 a)) (nonL b.data.toList (opNum c l p e) 8) (opHead c l p) (opBody c l p) = (opRest c l p).drop ((opRest c l p).length - 16)
instance (a b c : ByteArray) (l : List UInt8) (p e : Nat) : Decidable (opOk a b c l p e) := inferInstanceAs (Decidable (_ = _))
def opOut (a b c : ByteArray) (l : List UInt8) (p e : Nat) : List UInt8 := hidL (keyF16 a) (nonL b.data.toList (opNum c l p e) 8) (opBody c l p)
def openE (a b c : ByteArray) (l : List UInt8) (p e : Int) : Nat :=
  if 1 ≤ p ∧ 0 ≤ e ∧ e ≤ 4611686018427387903 ∧ rightB a b c = true then
    if p + 20 ≤ l.length then (if opOk a b c l p.toNat e.toNat then 0 else 4) else 3
  else 1
theorem opSz_lo (c : ByteArray) (l : List UInt8) (p : Nat) : 1 ≤ opSz c l p ∧ opSz c l p ≤ 4 := by
  unfold opSz; rw [u8_and3]; omega
theorem opBare_len (c : ByteArray) (l : List UInt8) (p : Nat) : (opBare c l p).length = l.length := hideL_len ..
theorem opRest_len (c : ByteArray) (l : List UInt8) (p : Nat) : (opRest c l p).length = l.length - (p + opSz c l p) := by
  unfold opRest; rw [List.length_drop, opBare_len]
theorem lowN_take (l : List UInt8) : ∀ n m, n ≤ m → lowN (l.take m) n = lowN l n
  | 0, _, _ => rfl
  | n + 1, m, h => by
    rw [lowN_succ, lowN_succ, lowN_take l n m (by omega)]
    simp only [List.getD, List.getElem?_take]
    rw [if_pos (by omega)]
theorem low_cut (l : List UInt8) (p n : Nat) (h : p + n ≤ l.length) : lowN ((l.drop p).take (p + n - p)) ((l.drop p).take (p + n - p)).length = lowN (l.drop p) n := by
  rw [Nat.add_sub_cancel_left, List.length_take, List.length_drop, Nat.min_eq_left (by omega), lowN_take _ _ _ (Nat.le_refl _)]
theorem whole_lt (low size e : Nat) (h1 : 1 ≤ size) (h4 : size ≤ 4) (hl : low < 2 ^ (8 * size)) (he : e ≤ 4611686018427387903) : wholeN low size e < 9223372036854775808 := by
  obtain ⟨hw1, hw2, hw3⟩ := pow_size size h1 h4
  have hdm : e / 2 ^ (8 * size) * 2 ^ (8 * size) ≤ e := Nat.div_mul_le_self _ _
  unfold wholeN
  split
  · omega
  · split <;> omega
theorem gopen_calls (a b c : ByteArray) (bv : Value) (l : List UInt8) (p e : Int) (w : World) (hv : Sl w bv l) (hl : l.length ≤ 65000) (hp1 : -9223372036854775808 ≤ p) (hp2 : p ≤ 9223372036854775807) : Ret Tryd.prog 12 #[.agg #[.string a, .string b, .string c], bv, I64 p, I64 e] w fun v w' => (openE a b c l p e = 0 → ∃ o1 cs1 o2 cap2 cs2, v = .tuple #[ownO o1 0 (p.toNat + opSz c l p.toNat) (p.toNat + opSz c l p.toNat), I64 (opNum c l p.toNat e.toNat : Nat), own o2 ((opRest c l p.toNat).length - 16) cap2, I64 (0 : Nat)] ∧ Hp [] w w' [(o1, 5, cs1), (o2, 5, cs2)] ∧ OwnD o1 0 (p.toNat + opSz c l p.toNat) (p.toNat + opSz c l p.toNat) cs1 (opHead c l p.toNat) ∧ OwnC o2 ((opRest c l p.toNat).length - 16) cap2 1 cs2 ((opOut a b c l p.toNat e.toNat).map V8)) ∧ ∀ k, openE a b c l p e = k → k ≠ 0 → v = .tuple #[.slice none 0 0, I64 (0 : Nat), .slice none 0 0, I64 (k : Nat)] ∧ Chg [] w w' := by
 refine Ret.enter Tryd.func12 rfl ?_
 simp only [Tryd.ntmps12, fe, Nat.reduceAdd, Nat.reduceSub]
 have hH := Hp.start [] w
 refine wp_seq_k ?_
 intro K1 hK1
 refine wrt [.x 0, .p 1, .p 2, .p 3, .p 4] ?_
 refine plan_box rfl rfl hH rfl ?_
 clear hH
 intro b2 w3 hH
 (try simp only [nf, nh, Value.cells, arrB_set] at hH ⊢)
 refine pa (pka 0 (pa (pka 0 ?_)));simp only [nf]
 refine plan_nil hH ?_
 clear hH
 intro w4 hH
 refine hK1 _ _ ?_
 (try clear hK1 K1)
 refine wp_seq_k ?_
 intro K5 hK5
 refine wp_block ?_
 refine wp_seq_k ?_
 intro K6 hK6
 refine wrt [.p 0, .p 1, .p 2, .p 3, .p 4, .p 5, .p 6, .p 7, .p 8, .p 9, .p 10, .q 11, .q 12, .p 13, .p 14, .p 15] ?_
 refine pm ?_;simp only [nf]
 refine pp rfl rfl (pr_bin rfl rfl (by first | exact bin_lss_n (n := 1)  | exact bin_lss_i)) ?_;simp only [nf]
 refine pm ?_;simp only [nf]
 refine plan_pc_f rfl rfl rfl (fun hb => by have hb' := hb; try simp only [gsl] at hb'; rw [hb]; exact pr_move) ?_
 (try simp only [nf])
 refine plan_pc_f rfl rfl rfl (fun hb => by have hb' := hb; try simp only [gsl] at hb'; rw [hb]; exact (pr_bin rfl rfl (by first | exact bin_lss_n (n := 0)  | exact bin_lss_i))) ?_
 (try simp only [nf])
 refine pp rfl rfl (pr_pick_or rfl rfl rfl) ?_;simp only [nf]
 refine pm ?_;simp only [nf]
 refine plan_pc_f rfl rfl rfl (fun hb => by have hb' := hb; try simp only [gsl] at hb'; rw [hb]; exact pr_move) ?_
 (try simp only [nf])
 refine plan_pc_f rfl rfl rfl (fun hb => by have hb' := hb; try simp only [gsl] at hb'; rw [hb]; exact (pr_bin rfl rfl (by first | exact bin_gtr_n (n := 4611686018427387903)  | exact bin_gtr_i))) ?_
 (try simp only [nf])
 refine pp rfl rfl (pr_pick_or rfl rfl rfl) ?_;simp only [nf]
 refine pm ?_;simp only [nf]
 refine plan_qc_f rfl rfl rfl (fun hb => by have hb' := hb; try simp only [gsl] at hb'; rw [hb]; exact (qr_loadW rfl (hH.blk 0 rfl) Tryd.underlying33 rfl sz33 (by simp))) ?_
 (try simp only [nf])
 refine plan_qc_f rfl rfl rfl (fun hb => by have hb' := hb; try simp only [gsl] at hb'; rw [hb]; exact (qr_call cf27 (fun w' hw => right_calls _ _ _ w') rfl)) ?_
 (try simp only [nf])
 refine plan_pc_f rfl rfl rfl (fun hb => by have hb' := hb; try simp only [gsl] at hb'; rw [hb]; exact (pr_not rfl)) ?_
 (try simp only [nf])
 refine pp rfl rfl (pr_pick_or rfl rfl rfl) ?_;simp only [nf]
 refine pa ?_;simp only [nf]
 refine plan_nil hH ?_
 clear hH
 intro w7 hH
 refine hK6 _ _ ?_
 (try clear hK6 K6)
 refine wp_cond_split rfl (fun hc8 => ?_) (fun hc8 => ?_)
 ·
  (try simp only [cnd, gsl] at hc8)
  have hq := hc8
  refine wp_seq_k ?_
  intro K9 hK9
  refine wrt [.p 0, .p 1, .p 2, .p 3] ?_
  refine pa (pka 0 (pa (pka 1 ?_)));simp only [nf]
  refine plan_nil hH ?_
  clear hH
  intro w10 hH
  refine hK9 _ _ ?_
  (try clear hK9 K9)
  refine wp_ret ?_
  (try simp only [Exit.then, Exit.inBlock, ↓reduceIte, Nat.reduceEqDiff])
  refine BP.ret4 rfl rfl rfl rfl rfl ?_
  have he : openE a b c l p e = 1 := by
    unfold openE
    rw [if_neg (fun h => by (obtain ⟨h1, h2, h3, h5⟩ := h; rcases hq with ((hq | hq) | hq) | hq <;> first | omega | (rw [h5] at hq; cases hq)))]
  exact ⟨fun h => by (rw [he] at h; cases h), fun k h1 _ => by (rw [he] at h1; subst h1; exact ⟨rfl, hH.chg⟩)⟩
 ·
  (try simp only [cnd, gsl] at hc8)
  have hq := hc8
  have hok : 1 ≤ p ∧ 0 ≤ e ∧ e ≤ 4611686018427387903 ∧ rightB a b c = true := ⟨by omega, by omega, by omega, hq.2⟩
  obtain ⟨ha, hb, hc⟩ := rightB_is hok.2.2.2
  obtain ⟨pn, rfl⟩ : ∃ k : Nat, p = k := ⟨p.toNat, by omega⟩
  obtain ⟨en, rfl⟩ : ∃ k : Nat, e = k := ⟨e.toNat, by omega⟩
  have hm : ((pn : Nat) : Int).toNat = pn := by omega
  have hnm : ((en : Nat) : Int).toNat = en := by omega
  refine wp_seq_k ?_
  intro K11 hK11
  refine wrt [.p 0, .p 1, .p 2, .p 3, .p 4, .p 5, .p 6, .p 7, .p 8, .p 9, .p 10, .p 11] ?_
  refine pm (pm ?_);simp only [nf]
  refine pp rfl rfl (pr_len_Sl (hv.chg hH.chg) rfl Tryd.underlying29) ?_;simp only [nf]
  refine pp rfl rfl (pr_bin rfl rfl (by first | exact bin_gtr_n  | exact bin_gtr_i)) ?_;simp only [nf]
  refine pm ?_;simp only [nf]
  refine plan_pc_f rfl rfl rfl (fun hb => by have hb' := hb; try simp only [gsl] at hb'; rw [hb]; exact pr_move) ?_
  (try simp only [nf])
  refine plan_pc_f rfl rfl rfl (fun hb => by have hb' := hb; try simp only [gsl] at hb'; rw [hb]; exact (pr_len_Sl (hv.chg hH.chg) rfl Tryd.underlying29)) ?_
  (try simp only [nf])
  refine plan_pc_f rfl rfl rfl (fun hb => by have hb' := hb; try simp only [gsl] at hb'; rw [hb]; exact pr_move) ?_
  (try simp only [nf])
  refine plan_pc_f rfl rfl rfl (fun hb => by have hb' := hb; try simp only [gsl] at hb'; rw [hb]; exact (pr_bin rfl rfl (by first | exact bin_sub_n (by first | omega | (first | (simp only [hideL_len, List.length_take, List.length_drop] at *; omega) | (rw [hbl]; omega) | (have := lt_u8 ((l.getD 0 0 ^^^ maskF c.data.toList l pn 0) &&& 3); omega))) (by first | omega | (first | (simp only [hideL_len, List.length_take, List.length_drop] at *; omega) | (rw [hbl]; omega) | (have := lt_u8 ((l.getD 0 0 ^^^ maskF c.data.toList l pn 0) &&& 3); omega))) | exact bin_sub_i (by first | omega | (first | (simp only [hideL_len, List.length_take, List.length_drop] at *; omega) | (rw [hbl]; omega) | (have := lt_u8 ((l.getD 0 0 ^^^ maskF c.data.toList l pn 0) &&& 3); omega))) (by first | omega | (first | (simp only [hideL_len, List.length_take, List.length_drop] at *; omega) | (rw [hbl]; omega) | (have := lt_u8 ((l.getD 0 0 ^^^ maskF c.data.toList l pn 0) &&& 3); omega)))))) ?_
  (try simp only [nf])
  refine plan_pc_f rfl rfl rfl (fun hb => by have hb' := hb; try simp only [gsl] at hb'; rw [hb]; exact (pr_bin rfl rfl (by first | exact bin_lss_n (n := 20)  | exact bin_lss_i))) ?_
  (try simp only [nf])
  refine pp rfl rfl (pr_pick_or rfl rfl rfl) ?_;simp only [nf]
  refine pa ?_;simp only [nf]
  refine plan_nil hH ?_
  clear hH
  intro w12 hH
  refine hK11 _ _ ?_
  (try clear hK11 K11)
  refine wp_cond_split rfl (fun hc13 => ?_) (fun hc13 => ?_)
  ·
   (try simp only [cnd, gsl] at hc13)
   have ht := hc13
   refine wp_seq_k ?_
   intro K14 hK14
   refine wrt [.p 0, .p 1, .p 2, .p 3] ?_
   refine pa (pka 0 (pa (pka 3 ?_)));simp only [nf]
   refine plan_nil hH ?_
   clear hH
   intro w15 hH
   refine hK14 _ _ ?_
   (try clear hK14 K14)
   refine wp_ret ?_
   (try simp only [Exit.then, Exit.inBlock, ↓reduceIte, Nat.reduceEqDiff])
   refine BP.ret4 rfl rfl rfl rfl rfl ?_
   have he : openE a b c l (pn : Nat) (en : Nat) = 3 := by
     unfold openE
     rw [if_pos hok, if_neg (by omega)]
   exact ⟨fun h => by (rw [he] at h; cases h), fun k h1 _ => by (rw [he] at h1; subst h1; exact ⟨rfl, hH.chg⟩)⟩
  ·
   (try simp only [cnd, gsl] at hc13)
   have ht := hc13
   have hlen : pn + 20 ≤ l.length := by omega
   obtain ⟨hz1, hz2⟩ := opSz_lo c l pn
   obtain ⟨hw1, hw2, hw3⟩ := pow_size (opSz c l pn) hz1 hz2
   have hbl := opBare_len c l pn
   have hrl := opRest_len c l pn
   have hlw := lowN_lt ((opBare c l pn).drop pn) (opSz c l pn)
   have hnb : opNum c l pn en < 9223372036854775808 := whole_lt _ _ _ hz1 hz2 hlw (by omega)
   have hcut := low_cut (opBare c l pn) pn (opSz c l pn) (by omega)
   refine wp_skip ?_
   refine hK5 _ _ ?_
   (try clear hK5 K5)
   refine wp_seq_k ?_
   intro K16 hK16
   refine wrt [.p 0, .x 1, .p 2] ?_
   refine pm ?_;simp only [nf]
   refine plan_callx rfl rfl hH cf32 (fun w' hH => clone_calls _ _ w' (hv.chg hH.chg) (by apply List.ne_nil_of_length_pos; omega) (by omega)) rfl (fun _ _ _ h => by obtain ⟨_, _, _, _, hg, _⟩ := h; exact hg) ?_
   clear hH
   intro w17 v18 w19 hH hp20
   obtain ⟨o21, cap22, cs23, rfl, hg, hO24, hfr⟩ := hp20
   replace hH := hH.callown hg hfr
   clear hg hfr
   (try simp only [nf, nh, Value.cells, arrB_set] at hH ⊢)
   (try simp only [nf])
   refine pa ?_;simp only [nf]
   refine plan_nil hH ?_
   clear hH
   intro w25 hH
   obtain ⟨b26, rfl⟩ := OwnC.some hO24 (by omega)
   refine hK16 _ _ ?_
   (try clear hK16 K16)
   refine wp_seq_k ?_
   intro K27 hK27
   refine wrt [.q 0, .p 1, .p 2, .x 3, .p 4] ?_
   refine pq rfl rfl (qr_loadW rfl (hH.blk 0 rfl) Tryd.underlying33 rfl sz33 (by simp)) ?_;simp only [nf]
   refine pm (pm ?_);simp only [nf]
   refine plan_callx rfl rfl hH cf34 (fun w' hH => mask_calls _ _ _ _ _ _ w' (OwnC.sl hH 1 rfl hO24) hc hlen (by omega)) rfl (fun _ _ _ h => h.choose_spec.2.1) ?_
   clear hH
   intro w28 v29 w30 hH hp31
   obtain ⟨b32, rfl, hg, hfr, hbk⟩ := hp31
   replace hH := hH.callnew hg hbk hfr
   clear hg hfr hbk
   (try simp only [nf, nh, Value.cells, arrB_set] at hH ⊢)
   (try simp only [nf])
   refine pa ?_;simp only [nf]
   refine plan_nil hH ?_
   clear hH
   intro w33 hH
   refine hK27 _ _ ?_
   (try clear hK27 K27)
   refine wp_seq_k ?_
   intro K34 hK34
   refine wrp [.p 0, .p 1, .p 3, .p 4, .q 2, .q 5, .p 6, .p 7, .p 8, .p 9, .p 10] ?_
   refine pm ?_;simp only [nf]
   refine pp rfl rfl (pr_idx_Sl (i := 0) (OwnC.sl hH 1 rfl hO24) rfl rfl Tryd.underlying29 sz5 (by first | omega | (first | (simp only [hideL_len, List.length_take, List.length_drop] at *; omega) | (rw [hbl]; omega) | (have := lt_u8 ((l.getD 0 0 ^^^ maskF c.data.toList l pn 0) &&& 3); omega)))) ?_;simp only [nf]
   refine pm ?_;simp only [nf]
   refine pp rfl rfl (pr_idxS1 (i := 0) rfl rfl Tryd.underlying29 sz5 (by first | omega | (first | (simp only [hideL_len, List.length_take, List.length_drop] at *; omega) | (rw [hbl]; omega) | (have := lt_u8 ((l.getD 0 0 ^^^ maskF c.data.toList l pn 0) &&& 3); omega)))) ?_;simp only [nf]
   refine pq rfl rfl (qr_load1 rfl Tryd.underlying5 rfl (Sl.cell (i := 0) (OwnC.sl hH 1 rfl hO24) (by first | omega | (first | (simp only [hideL_len, List.length_take, List.length_drop] at *; omega) | (rw [hbl]; omega) | (have := lt_u8 ((l.getD 0 0 ^^^ maskF c.data.toList l pn 0) &&& 3); omega))))) ?_;simp only [nf]
   refine pq rfl rfl (qr_load1 rfl Tryd.underlying5 rfl ((hH.blk 2 rfl).cell (arr8_get (by first | omega | (first | (simp only [hideL_len, List.length_take, List.length_drop] at *; omega) | (rw [hbl]; omega) | (have := lt_u8 ((l.getD 0 0 ^^^ maskF c.data.toList l pn 0) &&& 3); omega)))))) ?_;simp only [nf]
   refine pp rfl rfl (pr_bin rfl rfl (bin_xor_u8 _ _)) ?_;simp only [nf]
   refine pp rfl rfl (pr_bin rfl rfl (bin_and_u8 _ 3)) ?_;simp only [nf]
   refine pp rfl rfl (pr_conv rfl (cnv_u8_n _ Tryd.underlying5 Tryd.underlying3)) ?_;simp only [nf]
   refine pp rfl rfl (pr_bin rfl rfl (by first | exact bin_add_n (n := 1) (by first | omega | (first | (simp only [hideL_len, List.length_take, List.length_drop] at *; omega) | (rw [hbl]; omega) | (have := lt_u8 ((l.getD 0 0 ^^^ maskF c.data.toList l pn 0) &&& 3); omega))) | exact bin_add_i (by first | omega | (first | (simp only [hideL_len, List.length_take, List.length_drop] at *; omega) | (rw [hbl]; omega) | (have := lt_u8 ((l.getD 0 0 ^^^ maskF c.data.toList l pn 0) &&& 3); omega))) (by first | omega | (first | (simp only [hideL_len, List.length_take, List.length_drop] at *; omega) | (rw [hbl]; omega) | (have := lt_u8 ((l.getD 0 0 ^^^ maskF c.data.toList l pn 0) &&& 3); omega))))) ?_;simp only [nf]
   refine pa ?_;simp only [nf]
   refine plan_nil hH ?_
   clear hH
   intro w35 hH
   have hsz : ((l.getD 0 0 ^^^ maskF c.data.toList l pn 0) &&& 3).toNat + 1 = opSz c l pn := by unfold opSz; rw [show (maskL c.data.toList l pn).getD 0 0 = maskF c.data.toList l pn 0 from cut16 _ (by decide)]
   rw [hsz]
   refine hK34 _ _ ?_
   (try clear hK34 K34)
   refine wp_seq_k ?_
   intro K36 hK36
   refine wrt [.p 0, .p 1, .p 2, .p 3, .e 4] ?_
   refine pm (pm (pm (pm ?_)));simp only [nf]
   refine plan_calle rfl rfl hH cf33 (fun w' hH => hide_calls _ _ _ _ l (maskL c.data.toList l pn) _ pn (opSz c l pn) w' rfl (hH.blk 1 rfl) hO24 (fun w'' hw => (Sl.of_arr8 (o := 0) (n := 16) (hw.blk (hH.blk 2 rfl) (by simp only [List.mem_singleton]; exact hH.other (i := 1) rfl (j := 2) rfl (by decide) rfl)) (by omega) (by omega)).of_eq (by simp only [Nat.zero_add]; rfl)) (by omega) (by omega) (by rw [maskL_len]; omega) (by omega)) rfl ?_
   clear hH
   intro w37 v38 w39 hH hp40
   obtain ⟨rfl, hg, cs41, hbk, hO42⟩ := hp40
   replace hH := hH.callw 1 rfl hg hbk
   clear hg hbk
   (try simp only [nf, nh, Value.cells, arrB_set] at hH ⊢)
   refine plan_nil hH ?_
   clear hH
   intro w43 hH
   replace hO42 : OwnC _ _ _ 1 _ ((opBare c l pn).map V8) := hO42
   refine hK36 _ _ ?_
   (try clear hK36 K36)
   refine wp_seq_k ?_
   intro K44 hK44
   refine wrt [.p 0, .p 1, .p 2, .p 3] ?_
   refine pm (pm ?_);simp only [nf]
   refine pp rfl rfl (pr_bin rfl rfl (by first | exact bin_add_n (by first | omega | (first | (simp only [hideL_len, List.length_take, List.length_drop] at *; omega) | (rw [hbl]; omega) | (have := lt_u8 ((l.getD 0 0 ^^^ maskF c.data.toList l pn 0) &&& 3); omega))) | exact bin_add_i (by first | omega | (first | (simp only [hideL_len, List.length_take, List.length_drop] at *; omega) | (rw [hbl]; omega) | (have := lt_u8 ((l.getD 0 0 ^^^ maskF c.data.toList l pn 0) &&& 3); omega))) (by first | omega | (first | (simp only [hideL_len, List.length_take, List.length_drop] at *; omega) | (rw [hbl]; omega) | (have := lt_u8 ((l.getD 0 0 ^^^ maskF c.data.toList l pn 0) &&& 3); omega))))) ?_;simp only [nf]
   refine pa ?_;simp only [nf]
   refine plan_nil hH ?_
   clear hH
   intro w45 hH
   refine hK44 _ _ ?_
   (try clear hK44 K44)
   refine wp_seq_k ?_
   intro K46 hK46
   refine wrt [.p 0, .p 1, .p 2, .p 3, .q 4, .p 5, .p 6, .q 7, .p 8, .p 9, .p 10, .p 11, .p 12] ?_
   refine pm (pm (pm ?_));simp only [nf]
   refine pp rfl rfl (pr_slice_Sl_lh (OwnC.sl hH 1 rfl hO42) rfl rfl rfl Tryd.underlying29 sz5 (by first | omega | (first | (simp only [hideL_len, List.length_take, List.length_drop] at *; omega) | (rw [hbl]; omega) | (have := lt_u8 ((l.getD 0 0 ^^^ maskF c.data.toList l pn 0) &&& 3); omega))) (by first | omega | (first | (simp only [hideL_len, List.length_take, List.length_drop] at *; omega) | (rw [hbl]; omega) | (have := lt_u8 ((l.getD 0 0 ^^^ maskF c.data.toList l pn 0) &&& 3); omega)))) ?_;simp only [nf]
   refine pq rfl rfl (qr_call cf28 (fun w' hw => low_calls _ _ w' ((Sl.cut (OwnC.sl hH 1 rfl hO42) (by first | omega | (first | (simp only [hideL_len, List.length_take, List.length_drop] at *; omega) | (rw [hbl]; omega) | (have := lt_u8 ((l.getD 0 0 ^^^ maskF c.data.toList l pn 0) &&& 3); omega))) (by first | omega | (first | (simp only [hideL_len, List.length_take, List.length_drop] at *; omega) | (rw [hbl]; omega) | (have := lt_u8 ((l.getD 0 0 ^^^ maskF c.data.toList l pn 0) &&& 3); omega)))).chg hw) (by rw [List.length_take, List.length_drop]; omega)) rfl) ?_;simp only [nf]
   refine pm (pm ?_);simp only [nf]
   refine pq rfl rfl (qr_call cf35 (fun w' hw => pkwhole_calls _ _ _ w' hz1 hz2 (by rw [hcut]; exact hlw) (by omega)) rfl) ?_;simp only [nf]
   refine pm ?_;simp only [nf]
   refine pp rfl rfl (pr_extract rfl rfl) ?_;simp only [nf]
   refine pp rfl rfl (pr_extract rfl rfl) ?_;simp only [nf]
   refine pa (pa ?_);simp only [nf]
   refine plan_nil hH ?_
   clear hH
   intro w47 hH
   rw [hcut]
   have hnum : wholeN (lowN ((opBare c l pn).drop pn) (opSz c l pn)) (opSz c l pn) en = opNum c l pn en := rfl
   rw [hnum]
   refine hK46 _ _ ?_
   (try clear hK46 K46)
   refine wp_seq_k ?_
   intro K48 hK48
   refine wp_seq_k ?_
   intro K49 hK49
   refine wrt [.p 0, .p 1] ?_
   refine pm ?_;simp only [nf]
   refine pp rfl rfl (pr_bin rfl rfl (by first | exact bin_neq_n (n := 0)  | exact bin_neq_i)) ?_;simp only [nf]
   refine plan_nil hH ?_
   clear hH
   intro w50 hH
   refine hK49 _ _ ?_
   (try clear hK49 K49)
   refine wp_cond_false rfl ?_
   refine wp_skip ?_
   refine hK48 _ _ ?_
   (try clear hK48 K48)
   refine wp_seq_k ?_
   intro K51 hK51
   refine wrt [.p 0, .q 1, .x 2, .x 3, .p 4, .p 5, .p 6, .p 7, .p 8] ?_
   refine pp rfl rfl (pr_fieldAddr 0 rfl Tryd.underlying33 rfl rfl sz9) ?_;simp only [nf]
   refine pq rfl rfl (qr_load1 rfl Tryd.underlying9 rfl ((hH.blk 0 rfl).cell rfl)) ?_;simp only [nf]
   refine plan_s2b rfl rfl hH rfl Tryd.underlying9 Tryd.underlying29 Tryd.underlying5 ?_
   clear hH
   intro b52 cap53 cs54 w55 hO56 hH
   (try simp only [nf] at hH ⊢)
   (try simp only [nf, nh, Value.cells, arrB_set] at hH ⊢)
   refine plan_callx rfl rfl hH cf29 (fun w' hH => gnew_calls _ _ w' (OwnC.sl hH 3 rfl hO56) (by simpa using ha)) rfl (fun _ _ _ h => by obtain ⟨_, _, _, hg, _⟩ := h; exact hg) ?_
   clear hH
   intro w57 v58 w59 hH hp60
   obtain ⟨b61, b62, rfl, hg, hfc, hbc, hfx, hbx, hne⟩ := hp60
   replace hH := hH.callnew2 hg hbc hfc hbx hfx hne
   clear hg hfc hbc hfx hbx hne
   (try simp only [nf, nh, Value.cells, arrB_set] at hH ⊢)
   (try simp only [nf])
   refine pm ?_;simp only [nf]
   refine pp rfl rfl (pr_extract rfl rfl) ?_;simp only [nf]
   refine pp rfl rfl (pr_extract rfl rfl) ?_;simp only [nf]
   refine pa (pa ?_);simp only [nf]
   refine plan_nil hH ?_
   clear hH
   intro w63 hH
   refine hK51 _ _ ?_
   (try clear hK51 K51)
   refine wp_seq_k ?_
   intro K64 hK64
   refine wp_seq_k ?_
   intro K65 hK65
   refine wrt [.p 0, .p 1] ?_
   refine pm ?_;simp only [nf]
   refine pp rfl rfl (pr_bin rfl rfl (by first | exact bin_neq_n (n := 0)  | exact bin_neq_i)) ?_;simp only [nf]
   refine plan_nil hH ?_
   clear hH
   intro w66 hH
   refine hK65 _ _ ?_
   (try clear hK65 K65)
   refine wp_cond_false rfl ?_
   refine wp_skip ?_
   refine hK64 _ _ ?_
   (try clear hK64 K64)
   refine wp_seq_k ?_
   intro K67 hK67
   by_cases hopen : opOk a b c l pn en
   ·
    refine wrp [.p 0, .p 2, .p 4, .p 5, .p 6, .p 7, .p 8, .p 9, .q 1, .x 3, .x 10, .p 11, .p 12, .p 13, .p 14, .p 15] ?_
    refine pm (pm (pm (pm ?_)));simp only [nf]
    refine pp rfl rfl (pr_slice_Sl_h (OwnC.sl hH 1 rfl hO42) rfl rfl Tryd.underlying29 sz5 (by first | omega | (first | (simp only [hideL_len, List.length_take, List.length_drop] at *; omega) | (rw [hbl]; omega) | (have := lt_u8 ((l.getD 0 0 ^^^ maskF c.data.toList l pn 0) &&& 3); omega)))) ?_;simp only [nf]
    refine pm (pm ?_);simp only [nf]
    refine pp rfl rfl (pr_slice_Sl_l (OwnC.sl hH 1 rfl hO42) rfl rfl Tryd.underlying29 sz5 (by first | omega | (first | (simp only [hideL_len, List.length_take, List.length_drop] at *; omega) | (rw [hbl]; omega) | (have := lt_u8 ((l.getD 0 0 ^^^ maskF c.data.toList l pn 0) &&& 3); omega)))) ?_;simp only [nf]
    refine pq rfl rfl (qr_loadW rfl (hH.blk 0 rfl) Tryd.underlying33 rfl sz33 (by simp)) ?_;simp only [nf]
    refine plan_callx rfl rfl hH cf31 (fun w' hH => nonce_calls _ _ _ _ w' hb hnb) rfl (fun _ _ _ h => by obtain ⟨_, _, _, _, hg, _⟩ := h; exact hg) ?_
    clear hH
    intro w68 v69 w70 hH hp71
    obtain ⟨o72, cap73, cs74, rfl, hg, hO75, hfr⟩ := hp71
    replace hH := hH.callown hg hfr
    clear hg hfr
    (try simp only [nf, nh, Value.cells, arrB_set] at hH ⊢)
    (try simp only [nf])
    refine plan_callx rfl rfl hH cf36 (fun w' hH => Open_calls _ _ _ (hP _) _ _ _ _ _ _ w' (hH.blk 5 rfl) (hH.blk 4 rfl) (OwnC.sl hH 6 rfl hO75) (by rw [nonL_len]; simpa using hb) ((Sl.cuth (OwnC.sl hH 1 rfl hO42) (by first | omega | (first | (simp only [hideL_len, List.length_take, List.length_drop] at *; omega) | (rw [hbl]; omega) | (have := lt_u8 ((l.getD 0 0 ^^^ maskF c.data.toList l pn 0) &&& 3); omega)))).of_eq (show _ = opHead c l pn from rfl)) ((Sl.cutl (OwnC.sl hH 1 rfl hO42) (by first | omega | (first | (simp only [hideL_len, List.length_take, List.length_drop] at *; omega) | (rw [hbl]; omega) | (have := lt_u8 ((l.getD 0 0 ^^^ maskF c.data.toList l pn 0) &&& 3); omega)))).of_eq (show _ = opRest c l pn from rfl)) (by omega) (by omega) hopen) rfl (fun _ _ _ h => by obtain ⟨_, _, _, _, hg, _⟩ := h; exact hg) ?_
    clear hH
    intro w76 v77 w78 hH hp79
    obtain ⟨o80, cap81, cs82, rfl, hg, hO83, hfr⟩ := hp79
    replace hH := hH.callown hg hfr
    clear hg hfr
    (try simp only [nf, nh, Value.cells, arrB_set] at hH ⊢)
    (try simp only [nf])
    refine pm ?_;simp only [nf]
    refine pp rfl rfl (pr_extract rfl rfl) ?_;simp only [nf]
    refine pp rfl rfl (pr_extract rfl rfl) ?_;simp only [nf]
    refine pa (pa ?_);simp only [nf]
    refine plan_nil hH ?_
    clear hH
    intro w84 hH
    refine hK67 _ _ ?_
    (try clear hK67 K67)
    refine wp_seq_k ?_
    intro K85 hK85
    refine wp_seq_k ?_
    intro K86 hK86
    refine wrt [.p 0, .p 1, .p 2, .p 3, .p 4, .p 5, .p 6] ?_
    refine pm ?_;simp only [nf]
    refine pp rfl rfl (pr_bin rfl rfl (by first | exact bin_neq_n (n := 0)  | exact bin_neq_i)) ?_;simp only [nf]
    refine plan_p (v := BV false) rfl rfl (pr_move_v rfl) ?_
    (try simp only [nf])
    refine pp rfl rfl pr_move ?_;simp only [nf]
    refine pp rfl rfl (pr_len_sl rfl Tryd.underlying29) ?_;simp only [nf]
    refine pp rfl rfl (pr_bin rfl rfl (by first | exact bin_gtr_n (n := 65000)  | exact bin_gtr_i)) ?_;simp only [nf]
    refine pp rfl rfl (pr_pick_f rfl) ?_;simp only [nf]
    refine plan_nil hH ?_
    clear hH
    intro w87 hH
    refine hK86 _ _ ?_
    (try clear hK86 K86)
    refine wp_cond_false (by show BV _ = _; exact congrArg BV (decide_eq_false (by rw [hrl]; omega))) ?_
    refine wp_skip ?_
    refine hK85 _ _ ?_
    (try clear hK85 K85)
    refine wp_seq_k ?_
    intro K88 hK88
    refine wrt [.p 0, .p 1, .p 2, .p 3, .p 4, .p 5, .p 6, .p 7, .p 8, .p 9] ?_
    refine pm (pm (pm ?_));simp only [nf]
    refine pp rfl rfl (pr_slice_O3 rfl rfl rfl Tryd.underlying29 sz5 (Nat.le_trans (by first | omega | (first | (simp only [hideL_len, List.length_take, List.length_drop] at *; omega) | (rw [hbl]; omega) | (have := lt_u8 ((l.getD 0 0 ^^^ maskF c.data.toList l pn 0) &&& 3); omega))) (OwnC.le hO42))) ?_;simp only [nf]
    refine pm (pm (pa (pa (pa (pka 0 ?_)))));simp only [nf]
    refine plan_nil hH ?_
    clear hH
    intro w89 hH
    refine hK88 _ _ ?_
    (try clear hK88 K88)
    refine wp_ret ?_
    (try simp only [Exit.then, Exit.inBlock, ↓reduceIte, Nat.reduceEqDiff])
    refine BP.ret4 rfl rfl rfl rfl rfl ?_
    have he : openE a b c l (pn : Nat) (en : Nat) = 0 := by
      unfold openE
      rw [if_pos hok, if_pos (by omega), hm, hnm, if_pos hopen]
    simp only [hm, hnm]
    refine ⟨fun _ => ⟨_, _, _, _, _, rfl, hH.pick2 1 7 rfl rfl (by decide), ?_, ?_⟩, fun e h1 h2 => absurd (h1.symm.trans he) h2⟩
    · exact OwnC.cut3 (l := opBare c l pn) (by assumption) (by omega)
    · assumption
   ·
    refine wrp [.p 0, .p 2, .p 4, .p 5, .p 6, .p 7, .p 8, .p 9, .q 1, .x 3, .x 10, .p 11, .p 12, .p 13, .p 14, .p 15] ?_
    refine pm (pm (pm (pm ?_)));simp only [nf]
    refine pp rfl rfl (pr_slice_Sl_h (OwnC.sl hH 1 rfl hO42) rfl rfl Tryd.underlying29 sz5 (by first | omega | (first | (simp only [hideL_len, List.length_take, List.length_drop] at *; omega) | (rw [hbl]; omega) | (have := lt_u8 ((l.getD 0 0 ^^^ maskF c.data.toList l pn 0) &&& 3); omega)))) ?_;simp only [nf]
    refine pm (pm ?_);simp only [nf]
    refine pp rfl rfl (pr_slice_Sl_l (OwnC.sl hH 1 rfl hO42) rfl rfl Tryd.underlying29 sz5 (by first | omega | (first | (simp only [hideL_len, List.length_take, List.length_drop] at *; omega) | (rw [hbl]; omega) | (have := lt_u8 ((l.getD 0 0 ^^^ maskF c.data.toList l pn 0) &&& 3); omega)))) ?_;simp only [nf]
    refine pq rfl rfl (qr_loadW rfl (hH.blk 0 rfl) Tryd.underlying33 rfl sz33 (by simp)) ?_;simp only [nf]
    refine plan_callx rfl rfl hH cf31 (fun w' hH => nonce_calls _ _ _ _ w' hb hnb) rfl (fun _ _ _ h => by obtain ⟨_, _, _, _, hg, _⟩ := h; exact hg) ?_
    clear hH
    intro w90 v91 w92 hH hp93
    obtain ⟨o94, cap95, cs96, rfl, hg, hO97, hfr⟩ := hp93
    replace hH := hH.callown hg hfr
    clear hg hfr
    (try simp only [nf, nh, Value.cells, arrB_set] at hH ⊢)
    (try simp only [nf])
    refine plan_callx rfl rfl hH cf36 (fun w' hH => Open_wrong _ _ _ (hP _) _ _ _ _ _ _ w' (hH.blk 5 rfl) (hH.blk 4 rfl) (OwnC.sl hH 6 rfl hO97) (by rw [nonL_len]; simpa using hb) ((Sl.cuth (OwnC.sl hH 1 rfl hO42) (by first | omega | (first | (simp only [hideL_len, List.length_take, List.length_drop] at *; omega) | (rw [hbl]; omega) | (have := lt_u8 ((l.getD 0 0 ^^^ maskF c.data.toList l pn 0) &&& 3); omega)))).of_eq (show _ = opHead c l pn from rfl)) ((Sl.cutl (OwnC.sl hH 1 rfl hO42) (by first | omega | (first | (simp only [hideL_len, List.length_take, List.length_drop] at *; omega) | (rw [hbl]; omega) | (have := lt_u8 ((l.getD 0 0 ^^^ maskF c.data.toList l pn 0) &&& 3); omega)))).of_eq (show _ = opRest c l pn from rfl)) (by omega) (by omega) hopen) rfl (fun _ _ _ h => h.2) ?_
    clear hH
    intro w98 v99 w100 hH hp101
    obtain ⟨rfl, hg⟩ := hp101
    replace hH := hH.call hg
    clear hg
    (try simp only [nf])
    refine pm ?_;simp only [nf]
    refine pp rfl rfl (pr_extract rfl rfl) ?_;simp only [nf]
    refine pp rfl rfl (pr_extract rfl rfl) ?_;simp only [nf]
    refine pa (pa ?_);simp only [nf]
    refine plan_nil hH ?_
    clear hH
    intro w102 hH
    refine hK67 _ _ ?_
    (try clear hK67 K67)
    refine wp_seq_k ?_
    intro K103 hK103
    refine wp_seq_k ?_
    intro K104 hK104
    refine wrt [.p 0, .p 1, .p 2, .p 3, .p 4, .p 5, .p 6] ?_
    refine pm ?_;simp only [nf]
    refine pp rfl rfl (pr_bin rfl rfl (by first | exact bin_neq_n (n := 0)  | exact bin_neq_i)) ?_;simp only [nf]
    refine plan_p (v := BV true) rfl rfl (pr_move_v rfl) ?_
    (try simp only [nf])
    refine plan_ps rfl rfl ?_
    (try simp only [nf])
    refine plan_ps rfl rfl ?_
    (try simp only [nf])
    refine plan_ps rfl rfl ?_
    (try simp only [nf])
    refine pp rfl rfl (pr_pick_t rfl) ?_;simp only [nf]
    refine plan_nil hH ?_
    clear hH
    intro w105 hH
    refine hK104 _ _ ?_
    (try clear hK104 K104)
    refine wp_cond_true rfl ?_
    refine wp_seq_k ?_
    intro K106 hK106
    refine wrt [.p 0, .p 1, .p 2, .p 3] ?_
    refine pa (pka 0 (pa (pka 4 ?_)));simp only [nf]
    refine plan_nil hH ?_
    clear hH
    intro w107 hH
    refine hK106 _ _ ?_
    (try clear hK106 K106)
    refine wp_ret ?_
    (try simp only [Exit.then, Exit.inBlock, ↓reduceIte, Nat.reduceEqDiff])
    refine BP.ret4 rfl rfl rfl rfl rfl ?_
    have he : openE a b c l (pn : Nat) (en : Nat) = 4 := by
      unfold openE
      rw [if_pos hok, if_pos (by omega), hm, hnm, if_neg hopen]
    exact ⟨fun h => by (rw [he] at h; cases h), fun k h1 _ => by (rw [he] at h1; subst h1; exact ⟨rfl, hH.chg⟩)⟩
end Go.Proofs.YtdkjdioccpoacaaDoor
set_option linter.unusedSimpArgs false
set_option linter.unusedVariables false
namespace Go.Proofs.YtdkjdioccpoacaaDoor
open Go Go.ChangeShapes Go.WideShapes Go.RowKit
section
variable {H : Type} {enc : TypeId × Value → H} {P : Program}
theorem trodAll_kept (hl : laidOutB P = true) {W W' : World} (hb : Below W.heap.size W W') {sp : Nat → Bool} : ∀ {ts : List TypeId} {vs : List Value} {ds : List (DataW H)} {ps : List MemPlace},
    (ts.all fun t => P.readableRec t && decide (t < P.types.size)) = true → DataW.TrodAll enc P W 0 (fun _ => true) true ts vs ds ps → (∀ x ∈ ps, x.block < W.heap.size) → (∀ x ∈ ps, sp x.block = true) →
      DataW.TrodAll enc P W' 0 sp true ts vs ds ps
  | [], _, _, _, _, h, _, _ => by
    obtain ⟨rfl, rfl, rfl⟩ := trodAll_nil h
    rfl
  | t :: ts, _, _, _, hr, h, hlt, hs => by
    obtain ⟨v, vs1, d, ds1, a, b, rfl, rfl, rfl, h1, h2⟩ := trodAll_cons h
    simp only [List.all_cons, Bool.and_eq_true, decide_eq_true_eq] at hr
    refine ⟨a, b, WideElems.Trod_stays hl hr.1.1 hr.1.2 h1 (fun x hx => hb.same (hlt x (by simp [hx]))) (fun x hx => hs x (by simp [hx])), trodAll_kept hl hb ?_ h2 (fun x hx => hlt x (by simp [hx])) (fun x hx => hs x (by simp [hx])), rfl⟩
    simpa using hr.2
theorem trodVars_nil {w : World} {sp : Nat → Bool} {gs : List (DataW H)} {ps : List MemPlace} (h : DataW.TrodVars enc P w sp [] gs ps) : gs = [] ∧ ps = [] := by
  cases gs with
  | nil => exact ⟨rfl, h⟩
  | cons d ds => simp [DataW.TrodVars] at h
theorem post_of_true {f : Func} {s : ChangeSpec} {apart handsOn again : Bool} {W W' : World} {args : Array Value} {ds gs : List (DataW H)} {before : List MemPlace} {tb : TypeId}
    (hl : laidOutB P = true) (hpar : (f.params.toList.all fun t => P.readableRec t && decide (t < P.types.size)) = true) (hrt : f.resultTypes = #[tb]) (hb : P.underlying tb = some .bool) (hv : s.vars = [])
    (hs : ∀ ds : List (DataW H), ds.length = f.params.toList.length → s.fn H ds = { results := [.lit (.bool true)], args := ds })
    (hW : DataW.Whole enc P f.params.toList s.vars apart W args.toList ds gs before) (hc : Chg [] W W') : s.post enc P f apart true handsOn again W args (BV true) W' := by
  have hlt := hW.lt
  have hW0 := hW
  obtain ⟨p, q, hA, hV, rfl, hz, hn⟩ := hW
  rw [hv] at hV
  obtain ⟨rfl, rfl⟩ := trodVars_nil hV
  have hlen : ds.length = f.params.toList.length := by
    have : ∀ {ts : List TypeId} {vs : List Value} {ds : List (DataW H)} {ps : List MemPlace}, DataW.TrodAll enc P W 0 (fun _ => true) true ts vs ds ps → ds.length = ts.length := by
      intro ts
      induction ts with
      | nil => intro vs ds ps h; obtain ⟨rfl, rfl, rfl⟩ := trodAll_nil h; rfl
      | cons t ts ih =>
        intro vs ds ps h
        obtain ⟨v, vs1, d, ds1, a, b, rfl, rfl, rfl, h1, h2⟩ := trodAll_cons h
        simp [ih h2]
    exact this hA
  have e := hs (ds ++ []) (by simpa using hlen)
  have hbel := hc.below
  have hargs : ∀ sp : Nat → Bool, (∀ x ∈ p ++ [], sp x.block = true) → DataW.TrodAll enc P W' 0 sp true f.params.toList args.toList (s.fn H (ds ++ [])).args p := fun sp hsp => by
    rw [e, List.append_nil]
    exact trodAll_kept hl hbel hpar hA (fun x hx => hlt x (by simp [hx])) (fun x hx => hsp x (by simp [hx]))
  have hres : ∀ (b : Nat) (sp : Nat → Bool) (hd : Bool), DataW.TrodAll enc P W' b sp hd f.resultTypes.toList ((BV true).resultList f.resultTypes.size) (s.fn H (ds ++ [])).results [] := fun b sp hd => by
    rw [e, hrt]
    exact ⟨[], [], shut_bool hb true, rfl, rfl⟩
  have hvars : ∀ sp : Nat → Bool, (∀ x ∈ p ++ [], sp x.block = true) → DataW.TrodVars enc P W' sp s.vars (s.fn H (ds ++ [])).vars [] := fun sp _ => by
    rw [e, hv]; rfl
  have hold : ∀ x ∈ p ++ [], (fun b => decide (b < W.heap.size)) x.block = true := fun x hx => by simpa using hlt x hx
  refine ⟨ds, [], p ++ [], [], p, [], hW0, hres _ _ _, hargs _ hold, hvars _ hold, World.keptBut_mono (fun x hx => ⟨hx, ?_⟩) (hbel.frame (· ∈ p ++ [])), fun _ => ?_⟩
  · rw [List.mem_append] at hx
    exact Or.inr hx
  · refine ⟨ok_one hrt rfl (okWide_bool_mk hb true), _, _, ([] ++ p) ++ [], ⟨[] ++ p, [], trodAll_append (hargs _ (fun _ _ => rfl)) (hres _ _ _), hvars _ (fun _ _ => rfl), rfl, ?_, ?_⟩, ?_⟩
    · intro b off hp
      have hb' : b < W.heap.size := hlt (.cell b off) (by simpa using hp)
      rw [hbel.frozen (p := ⟨b, off, none⟩) hb']
      exact hz b off (by simpa using hp)
    · intro ha
      simpa using hn ha
    · intro x hx _
      simpa using hx
end
section
variable {H : Type} {enc : TypeId × Value → H} {P : Program} {w : World} {base : Nat} {spare : Nat → Bool} {held : Bool}
theorem trod_u8 {e : TypeId} {fuel : Nat} {cs : List Value} {x : DataW H × List MemPlace} (he : P.underlying e = some (.int .u8)) (h : DataW.trod enc P w base spare held fuel e cs = some x) : ∃ b : UInt8, cs = [V8 b] := by
  obtain ⟨n, rfl, _, hw⟩ := DataW.trod_int he h
  have := bounds_u8 hw
  refine ⟨UInt8.ofNat n.toNat, ?_⟩
  have e1 : ((UInt8.ofNat n.toNat).toNat : Int) = n := by
    rw [UInt8.toNat_ofNat']; omega
  rw [show V8 (UInt8.ofNat n.toNat) = .int .u8 ((UInt8.ofNat n.toNat).toNat : Int) from rfl, e1]
theorem trod_arr8 {t e : TypeId} {n fuel : Nat} {cs : List Value} {x : DataW H × List MemPlace} (hu : P.underlying t = some (.array n e)) (he : P.underlying e = some (.int .u8)) (hse : szc P e = some 1) (hst : szc P t = some n)
    (h : DataW.trod enc P w base spare held fuel t cs = some x) : ∃ f : Nat → UInt8, cs = (arr8 n f).toList := by
  have hc : P.cellsOf e = 1 := by unfold szc at hse; unfold Program.cellsOf; rw [hse]; rfl
  have hct : P.cellsOf t = n := by unfold szc at hst; unfold Program.cellsOf; rw [hst]; rfl
  obtain ⟨xs, m, rfl, _, hlen, hxs, hall⟩ := DataW.trod_array hu h
  rw [hct] at hlen
  have hcell : ∀ i : Nat, ∃ b : UInt8, i < n → cs[i]? = some (V8 b) := fun i => by
    by_cases hi : i < n
    · have h1 := hall i hi
      rw [hc, Nat.mul_one] at h1
      have hx : ∃ y, xs[i]? = some y := ⟨xs[i]'(by omega), by rw [List.getElem?_eq_getElem]⟩
      obtain ⟨y, hy⟩ := hx
      rw [hy] at h1
      obtain ⟨b, hb⟩ := trod_u8 he h1
      refine ⟨b, fun _ => ?_⟩
      have := congrArg (·[0]?) hb
      simpa using this
    · exact ⟨0, fun h => absurd h hi⟩
  obtain ⟨f, hf⟩ := Classical.axiomOfChoice hcell
  refine ⟨f, ?_⟩
  apply List.ext_getElem?
  intro i
  by_cases hi : i < n
  · rw [hf i hi, Array.getElem?_toList, arr8_get hi]
  · rw [List.getElem?_eq_none (by omega), List.getElem?_eq_none (by simp; omega)]
theorem open_arr8 {t e : TypeId} {n : Nat} {r : Reach} {b0 : Nat} {v : Value} {d : DataW H} {ps : List MemPlace} (hu : P.underlying t = some (.array n e)) (he : P.underlying e = some (.int .u8)) (hse : szc P e = some 1) (hst : szc P t = some n)
    (hval : Value.okWide P w r b0 t v) (h : DataW.Trod enc P w base spare held t v d ps) : ∃ f : Nat → UInt8, v = .agg (arr8 n f) := by
  obtain ⟨fuel, h⟩ := h
  unfold Value.okWide at hval
  rw [hu] at hval
  obtain ⟨cs, rfl, _⟩ := hval
  obtain ⟨f, hf⟩ := trod_arr8 hu he hse hst h
  refine ⟨f, ?_⟩
  have : cs = arr8 n f := by
    apply Array.ext'
    simpa [Value.cells] using hf
  rw [this]
end
end Go.Proofs.YtdkjdioccpoacaaDoor
set_option linter.unusedSimpArgs false
set_option linter.unusedVariables false
namespace Go.Proofs.YtdkjdioccpoacaaDoor
open Go Go.ChangeShapes Go.WideShapes Go.RowKit
section
variable {P : Program} {ops : List Oper} {Q : Exit → Act → World → Prop} {r : List PStep} {a : Act} {w : World} {i : Nat} {d : Option Tmp} {ty : TypeId} {pos : String} {af : Array Edge} {g : Option (Nat × Bool)} {x y : Operand} {t t' T : TypeId}
  {S : List Nat} {w0 : World} {L : List Own}
end
theorem weightsEach_at {H : Type} {P : Program} {p : Nat → Bool} : ∀ {ts : List TypeId} {ds : List (DataW H)}, (DataW.weightsEach P ts ds).all p = true → ∀ (i : Nat) (t : TypeId) (d : DataW H), ts[i]? = some t → ds[i]? = some d → (d.weights P t).all p = true
  | [], _, _, i, t, d, h1, _ => by simp at h1
  | _ :: _, [], _, i, t, d, _, h2 => by simp at h2
  | t0 :: ts, d0 :: ds, h, i, t, d, h1, h2 => by
    simp only [DataW.weightsEach, List.all_append, Bool.and_eq_true] at h
    cases i with
    | zero => simp at h1 h2; subst h1; subst h2; exact h.1
    | succ i => exact weightsEach_at h.2 i t d (by simpa using h1) (by simpa using h2)
section
variable {H : Type} {enc : TypeId × Value → H} {P : Program} {w : World} {base : Nat} {spare : Nat → Bool} {held : Bool}
end
end Go.Proofs.YtdkjdioccpoacaaDoor
set_option linter.unusedSimpArgs false
set_option linter.unusedVariables false
set_option maxRecDepth 100000
set_option maxHeartbeats 4000000
namespace Go.Proofs.YtdkjdioccpoacaaDoor
open Go
open List (getD_cons_zero getD_cons_succ set_cons_zero set_cons_succ)
theorem sealed_take (K : Nat → UInt8) (h : P2) (nl al bl : List UInt8) : (sealedL K h nl al bl).take ((sealedL K h nl al bl).length - 16) = hidL K nl bl := by
  rw [sealedL_len, Nat.add_sub_cancel]
  unfold sealedL
  rw [List.take_append_of_le_length (by rw [hidL_len]; exact Nat.le_refl _), List.take_of_length_le (by rw [hidL_len]; exact Nat.le_refl _)]
theorem sealed_drop (K : Nat → UInt8) (h : P2) (nl al bl : List UInt8) : (sealedL K h nl al bl).drop ((sealedL K h nl al bl).length - 16) = sealL K h nl al (hidL K nl bl) := by
  rw [sealedL_len, Nat.add_sub_cancel]
  unfold sealedL
  rw [List.drop_append_of_le_length (by rw [hidL_len]; exact Nat.le_refl _), List.drop_eq_nil_of_le (by rw [hidL_len]; exact Nat.le_refl _), List.nil_append]
theorem hid_twice (K : Nat → UInt8) (nl bl : List UInt8) : hidL K nl (hidL K nl bl) = bl := by
  unfold hidL
  rw [strm_len]; exact strm_twice _ _ _ _
end Go.Proofs.YtdkjdioccpoacaaDoor
set_option linter.unusedSimpArgs false
set_option linter.unusedVariables false
set_option maxRecDepth 100000
set_option maxHeartbeats 4000000
namespace Go.Proofs.YtdkjdioccpoacaaDoor
open Go
open List (getD_cons_zero getD_cons_succ set_cons_zero set_cons_succ)
theorem set_getD (l : List UInt8) (j : Nat) (v : UInt8) (i : Nat) (hj : j < l.length) : (l.set j v).getD i 0 = if i = j then v else l.getD i 0 := by
  simp only [List.getD, List.getElem?_set]
  by_cases h : j = i
  · subst h; rw [if_pos rfl, if_pos rfl, if_pos hj]; rfl
  · rw [if_neg h, if_neg (fun e => h e.symm)]
end Go.Proofs.YtdkjdioccpoacaaDoor
set_option linter.unusedSimpArgs false
set_option linter.unusedVariables false
set_option maxRecDepth 100000
set_option maxHeartbeats 4000000
namespace Go.Proofs.YtdkjdioccpoacaaDoor
open Go
open List (getD_cons_zero getD_cons_succ set_cons_zero set_cons_succ)
theorem getD_ext {l l' : List UInt8} (h : l.length = l'.length) (he : ∀ i, i < l.length → l.getD i 0 = l'.getD i 0) : l = l' := by
  apply List.ext_getElem h
  intro i h1 h2
  have := he i h1
  simpa [List.getD, h1, h2] using this
theorem hideL_at (l ml : List UInt8) (p : Nat) (hp : 1 ≤ p) : ∀ n i, p + n ≤ l.length → (hideL l ml p n).getD i 0 = if i = 0 then l.getD 0 0 ^^^ ml.getD 0 0 else if p ≤ i ∧ i < p + n then l.getD i 0 ^^^ ml.getD (1 + (i - p)) 0 else l.getD i 0
  | 0, i, h => by
    unfold hideL
    rw [set_getD _ _ _ _ (by omega)]
    by_cases h0 : i = 0
    · rw [if_pos h0, if_pos h0]
    · rw [if_neg h0, if_neg h0, if_neg (by omega)]
  | n + 1, i, h => by
    unfold hideL
    rw [set_getD _ _ _ _ (by rw [hideL_len]; omega), hideL_at l ml p hp n i (by omega), hideL_at l ml p hp n (p + n) (by omega)]
    by_cases h0 : i = p + n
    · subst h0
      rw [if_pos rfl, if_neg (by omega), if_neg (by omega), if_neg (by omega), if_pos (by omega), show p + n - p = n by omega]
    · rw [if_neg h0]
      by_cases h1 : i = 0
      · rw [if_pos h1, if_pos h1]
      · rw [if_neg h1, if_neg h1]
        by_cases h2 : p ≤ i ∧ i < p + n
        · rw [if_pos h2, if_pos (by omega)]
        · rw [if_neg h2, if_neg (by omega)]
theorem samp_getD (l : List UInt8) (p i : Nat) : (sampL l p).getD i 0 = if i < 16 then l.getD (p + 4 + i) 0 else 0 := by
  unfold sampL
  simp only [List.getD, List.getElem?_take, List.getElem?_drop]
  split <;> rfl
theorem maskL_congr {K l l' : List UInt8} {p : Nat} (h0 : l.getD 0 0 &&& 128 = l'.getD 0 0 &&& 128) (hs : ∀ i, i < 16 → l.getD (p + 4 + i) 0 = l'.getD (p + 4 + i) 0) : maskL K l p = maskL K l' p := by
  have e : (fun i => (sampL l p).getD i 0) = fun i => (sampL l' p).getD i 0 := funext fun i => by
    rw [samp_getD, samp_getD]
    by_cases h : i < 16
    · rw [if_pos h, if_pos h, hs i h]
    · rw [if_neg h, if_neg h]
  unfold maskL maskF maskR
  rw [e, h0]
theorem u8_and_xor (a b c : UInt8) : (a &&& c) ^^^ (b &&& c) = (a ^^^ b) &&& c := by
  apply UInt8.toNat_inj.1
  apply Nat.eq_of_testBit_eq
  intro i
  simp only [UInt8.toNat_xor, UInt8.toNat_and, Nat.testBit_xor, Nat.testBit_and]
  cases a.toNat.testBit i <;> cases b.toNat.testBit i <;> cases c.toNat.testBit i <;> rfl
theorem mask_top (K l : List UInt8) (p : Nat) (x : UInt8) : (x ^^^ (maskL K l p).getD 0 0) &&& 128 = x &&& 128 := by
  rw [mask_head]
  have h1 : ∀ m : UInt8, (x ^^^ (m &&& 15)) &&& 128 = x &&& 128 := fun m => by
    rw [← u8_and_xor, UInt8.and_assoc, show (15 : UInt8) &&& 128 = 0 from rfl, UInt8.and_zero, UInt8.xor_zero]
  have h2 : ∀ m : UInt8, (x ^^^ (m &&& 31)) &&& 128 = x &&& 128 := fun m => by
    rw [← u8_and_xor, UInt8.and_assoc, show (31 : UInt8) &&& 128 = 0 from rfl, UInt8.and_zero, UInt8.xor_zero]
  split
  · exact h1 _
  · exact h2 _
theorem whole_back (nu e sz : Nat) (h1 : 1 ≤ sz) (h4 : sz ≤ 4) (hn : nu ≤ 4611686018427387903) (hlo : e ≤ nu + 2 ^ (8 * sz) / 4) (hhi : nu ≤ e + 2 ^ (8 * sz) / 4) : wholeN (nu % 2 ^ (8 * sz)) sz e = nu := by
  obtain ⟨hw1, hw2, hw3⟩ := pow_size sz h1 h4
  unfold wholeN
  generalize 2 ^ (8 * sz) = W at *
  have hB := Nat.div_add_mod nu W
  have hA := Nat.div_add_mod e W
  have hml := Nat.mod_lt nu (show 0 < W by omega)
  have hme := Nat.mod_lt e (show 0 < W by omega)
  rw [Nat.mul_comm] at hB hA
  have ha : e / W * W + e % W = e := hA
  have hb : nu / W * W + nu % W = nu := hB
  have hge : nu / W + 2 ≤ e / W → False := fun h => by
    have := Nat.mul_le_mul_right W h
    rw [Nat.add_mul] at this; omega
  have hle : e / W + 2 ≤ nu / W → False := fun h => by
    have := Nat.mul_le_mul_right W h
    rw [Nat.add_mul] at this; omega
  rcases Nat.lt_trichotomy (e / W) (nu / W) with h | h | h
  · have hq : nu / W = e / W + 1 := by
      rcases Nat.lt_or_ge (nu / W) (e / W + 2) with h2 | h2
      · omega
      · exact (hle h2).elim
    rw [hq, Nat.add_mul, Nat.one_mul] at hb
    rw [if_pos (by omega)]; omega
  · rw [h] at ha ⊢
    rw [if_neg (by omega), if_neg (by omega)]; omega
  · have hq : e / W = nu / W + 1 := by
      rcases Nat.lt_or_ge (e / W) (nu / W + 2) with h2 | h2
      · omega
      · exact (hge h2).elim
    rw [hq, Nat.add_mul, Nat.one_mul] at ha ⊢
    rw [if_neg (by omega), if_pos (by omega)]; omega
theorem sealE_ok {a b c : ByteArray} {hl : List UInt8} {size number : Int} {cn : Nat} (h : sealE a b c hl size number cn = 0) :
    1 ≤ size ∧ size ≤ 4 ∧ 0 ≤ number ∧ number ≤ 4611686018427387903 ∧ rightB a b c = true ∧ size + 1 ≤ hl.length ∧ (hl.getD 0 0).toNat % 4 = size.toNat - 1 ∧ lowN (hl.drop (hl.length - size.toNat)) size.toNat = number.toNat % 2 ^ (8 * size.toNat) ∧ 4 ≤ cn + size.toNat ∧ cn ≤ 65000 := by
  unfold sealE at h
  split at h
  · rename_i h1
    obtain ⟨a1, a2, a3, a4, a5, a6⟩ := h1
    split at h
    · rename_i h2
      split at h
      · cases h
      · split at h
        · cases h
        · exact ⟨a1, a2, a3, a4, a5, a6, h2.1, h2.2, by omega, by omega⟩
    · cases h
  · cases h
theorem app_l (a b : List UInt8) {i : Nat} (h : i < a.length) : (a ++ b).getD i 0 = a.getD i 0 := by simp only [List.getD, List.getElem?_append, h, if_true]
theorem xor8_twice (a b : UInt8) : a ^^^ b ^^^ b = a := by rw [UInt8.xor_assoc, UInt8.xor_self, UInt8.xor_zero]
section
variable {a b c : ByteArray} {hl cl : List UInt8} {sz nu : Nat}
structure Back (a b c : ByteArray) (hl cl : List UInt8) (sz nu : Nat) : Prop where
  s1 : 1 ≤ sz
  s4 : sz ≤ 4
  nb : nu ≤ 4611686018427387903
  rb : rightB a b c = true
  hl1 : sz + 1 ≤ hl.length
  first : (hl.getD 0 0).toNat % 4 = sz - 1
  low : lowN (hl.drop (hl.length - sz)) sz = nu % 2 ^ (8 * sz)
  tail : 4 ≤ cl.length + sz
theorem Back.of (h : sealE a b c hl (sz : Nat) (nu : Nat) cl.length = 0) : Back a b c hl cl sz nu := by
  obtain ⟨a1, a2, a3, a4, a5, a6, a7, a8, a9, a10⟩ := sealE_ok h
  have hm : ((sz : Nat) : Int).toNat = sz := by omega
  have hnm : ((nu : Nat) : Int).toNat = nu := by omega
  rw [hm] at a7 a8 a9
  rw [hnm] at a8
  exact ⟨by omega, by omega, by omega, a5, by omega, a7, a8, a9⟩
theorem Back.len (h : Back a b c hl cl sz nu) : hl.length - sz + 20 ≤ (sealOut a b c hl sz nu cl).length := by
  rw [sealOut_len]; have := h.hl1; have := h.tail; omega
theorem Back.at_ (h : Back a b c hl cl sz nu) (i : Nat) : (sealOut a b c hl sz nu cl).getD i 0 = if i = 0 then (sealBody a b hl nu cl).getD 0 0 ^^^ (maskL c.data.toList (sealBody a b hl nu cl) (hl.length - sz)).getD 0 0 else if hl.length - sz ≤ i ∧ i < hl.length - sz + sz then (sealBody a b hl nu cl).getD i 0 ^^^ (maskL c.data.toList (sealBody a b hl nu cl) (hl.length - sz)).getD (1 + (i - (hl.length - sz))) 0 else (sealBody a b hl nu cl).getD i 0 :=
  hideL_at _ _ _ (by have := h.hl1; omega) sz i (by rw [sealBody_len]; have := h.hl1; omega)
theorem Back.mask (h : Back a b c hl cl sz nu) : maskL c.data.toList (sealOut a b c hl sz nu cl) (hl.length - sz) = maskL c.data.toList (sealBody a b hl nu cl) (hl.length - sz) := by
  refine maskL_congr ?_ fun i hi => ?_
  · rw [h.at_ 0, if_pos rfl, mask_top]
  · rw [h.at_, if_neg (by omega), if_neg (by have := h.s4; have := h.hl1; omega)]
theorem Back.head0 (h : Back a b c hl cl sz nu) : (sealBody a b hl nu cl).getD 0 0 = hl.getD 0 0 := app_l _ _ (by have := h.hl1; omega)
theorem Back.size (h : Back a b c hl cl sz nu) : opSz c (sealOut a b c hl sz nu cl) (hl.length - sz) = sz := by
  unfold opSz
  rw [h.mask, h.at_ 0, if_pos rfl, xor8_twice, u8_and3, h.head0, h.first]
  have := h.s1; omega
theorem Back.bare (h : Back a b c hl cl sz nu) : opBare c (sealOut a b c hl sz nu cl) (hl.length - sz) = sealBody a b hl nu cl := by
  have hh := h.hl1
  unfold opBare
  rw [h.size, h.mask]
  refine getD_ext (by rw [hideL_len, sealOut_len, sealBody_len]) fun i hi => ?_
  rw [hideL_at _ _ _ (by omega) _ _ (by rw [sealOut_len]; omega), h.at_ i, h.at_ 0, if_pos rfl]
  by_cases h0 : i = 0
  · rw [if_pos h0, xor8_twice, h0]
  · rw [if_neg h0, if_neg h0]
    by_cases h1 : hl.length - sz ≤ i ∧ i < hl.length - sz + sz
    · rw [if_pos h1, if_pos h1, xor8_twice]
    · rw [if_neg h1, if_neg h1]
theorem lowN_congr {l l' : List UInt8} : ∀ n, (∀ i, i < n → l.getD i 0 = l'.getD i 0) → lowN l n = lowN l' n
  | 0, _ => rfl
  | n + 1, h => by rw [lowN_succ, lowN_succ, lowN_congr n fun i hi => h i (by omega), h n (by omega)]
theorem low_body (hl x : List UInt8) (sz : Nat) (h : sz ≤ hl.length) : lowN ((hl ++ x).drop (hl.length - sz)) sz = lowN (hl.drop (hl.length - sz)) sz :=
  lowN_congr sz fun i hi => by
    simp only [List.getD, List.getElem?_drop, List.getElem?_append]
    rw [if_pos (by omega)]
theorem Back.num (h : Back a b c hl cl sz nu) {e : Nat} (hlo : e ≤ nu + 2 ^ (8 * sz) / 4) (hhi : nu ≤ e + 2 ^ (8 * sz) / 4) : opNum c (sealOut a b c hl sz nu cl) (hl.length - sz) e = nu := by
  have hh := h.hl1
  unfold opNum
  rw [h.size, h.bare]
  unfold sealBody
  rw [low_body _ _ _ (by omega), h.low]
  exact whole_back nu e sz h.s1 h.s4 h.nb hlo hhi
theorem Back.head (h : Back a b c hl cl sz nu) : opHead c (sealOut a b c hl sz nu cl) (hl.length - sz) = hl := by
  have hh := h.hl1
  unfold opHead
  rw [h.size, h.bare, show hl.length - sz + sz = hl.length by omega]
  unfold sealBody
  exact List.take_left' rfl
theorem Back.rest (h : Back a b c hl cl sz nu) : opRest c (sealOut a b c hl sz nu cl) (hl.length - sz) = sealedL (keyF16 a) (hP (keyF16 a)) (nonL b.data.toList nu 8) hl cl := by
  have hh := h.hl1
  unfold opRest
  rw [h.size, h.bare, show hl.length - sz + sz = hl.length by omega]
  unfold sealBody
  exact List.drop_left' rfl
theorem Back.ok (h : Back a b c hl cl sz nu) {e : Nat} (hlo : e ≤ nu + 2 ^ (8 * sz) / 4) (hhi : nu ≤ e + 2 ^ (8 * sz) / 4) : opOk a b c (sealOut a b c hl sz nu cl) (hl.length - sz) e := by
  unfold opOk opBody
  rw [h.num hlo hhi, h.head, h.rest, sealed_take, sealed_drop]
theorem Back.out (h : Back a b c hl cl sz nu) {e : Nat} (hlo : e ≤ nu + 2 ^ (8 * sz) / 4) (hhi : nu ≤ e + 2 ^ (8 * sz) / 4) : opOut a b c (sealOut a b c hl sz nu cl) (hl.length - sz) e = cl := by
  unfold opOut opBody
  rw [h.num hlo hhi, h.rest, sealed_take, hid_twice]
theorem Back.openE (h : Back a b c hl cl sz nu) {e : Nat} (he : e ≤ 4611686018427387903) (hlo : e ≤ nu + 2 ^ (8 * sz) / 4) (hhi : nu ≤ e + 2 ^ (8 * sz) / 4) : openE a b c (sealOut a b c hl sz nu cl) ((hl.length - sz : Nat) : Int) (e : Nat) = 0 := by
  have hh := h.hl1
  have hlen := h.len
  unfold Go.Proofs.YtdkjdioccpoacaaDoor.openE
  rw [if_pos ⟨by omega, by omega, by omega, h.rb⟩, if_pos (by omega), show (((hl.length - sz : Nat) : Int)).toNat = hl.length - sz by omega, show ((e : Nat) : Int).toNat = e by omega, if_pos (h.ok hlo hhi)]
variable {k : Nat} {x : UInt8}
end
end Go.Proofs.YtdkjdioccpoacaaDoor
set_option linter.unusedSimpArgs false
set_option linter.unusedVariables false
set_option maxRecDepth 100000
set_option maxHeartbeats 4000000
namespace Go.Proofs.YtdkjdioccpoacaaDoor
open Go
open List (getD_cons_zero getD_cons_succ set_cons_zero set_cons_succ)
theorem gopen_back (a b c : ByteArray) (hl cl : List UInt8) (sz nu e : Nat) (bv : Value) (w : World) (hB : Back a b c hl cl sz nu) (he : e ≤ 4611686018427387903) (hlo : e ≤ nu + 2 ^ (8 * sz) / 4) (hhi : nu ≤ e + 2 ^ (8 * sz) / 4) (hv : Sl w bv (sealOut a b c hl sz nu cl)) (hll : hl.length ≤ 100) (hcl : cl.length ≤ 1000) :
    Ret Tryd.prog 12 #[.agg #[.string a, .string b, .string c], bv, I64 (hl.length - sz : Nat), I64 e] w fun v w' => ∃ o1 cs1 o2 cap2 cs2, v = .tuple #[ownO o1 0 hl.length hl.length, I64 nu, own o2 cl.length cap2, I64 (0 : Nat)] ∧ Hp [] w w' [(o1, 5, cs1), (o2, 5, cs2)] ∧ OwnD o1 0 hl.length hl.length cs1 hl ∧ OwnC o2 cl.length cap2 1 cs2 (cl.map V8) := by
  have hh := hB.hl1
  have hopen := hB.openE he hlo hhi
  refine (gopen_calls a b c bv _ ((hl.length - sz : Nat) : Int) (e : Int) w hv (by rw [sealOut_len]; omega) (by omega) (by omega)).mono fun v w' h => ?_
  obtain ⟨o1, cs1, o2, cap2, cs2, rfl, hp, hd, hO⟩ := h.1 hopen
  rw [show (((hl.length - sz : Nat) : Int)).toNat = hl.length - sz by omega] at hd hO ⊢
  rw [show ((e : Nat) : Int).toNat = e by omega] at hO ⊢
  rw [hB.num hlo hhi]
  rw [hB.size, hB.head, show hl.length - sz + sz = hl.length by omega] at hd
  rw [hB.out hlo hhi, hB.rest, sealedL_len, Nat.add_sub_cancel] at hO
  rw [hB.size, hB.rest, sealedL_len, Nat.add_sub_cancel, show hl.length - sz + sz = hl.length by omega]
  exact ⟨o1, cs1, o2, cap2, cs2, rfl, hp, hd, hO⟩
theorem expO_len (sl il : List UInt8) : ∀ k, (expO sl il k).length = 32 * k
  | 0 => rfl
  | k + 1 => by
    show (expO sl il k ++ expT sl il (k + 1)).length = _
    rw [List.length_append, expO_len sl il k, expT_succ, macL_len]; omega
theorem labL_len (sl : List UInt8) (nm : ByteArray) (cl : List UInt8) (n : Nat) : (labL sl nm cl n).length = n := by
  unfold labL; rw [List.length_take, expO_len]; omega
theorem kKey_size (sl : List UInt8) : (kKey sl).size = 16 := by unfold kKey; rw [bsz, labL_len]
theorem kIv_size (sl : List UInt8) : (kIv sl).size = 12 := by unfold kIv; rw [bsz, labL_len]
theorem kMask_size (sl : List UInt8) : (kMask sl).size = 16 := by unfold kMask; rw [bsz, labL_len]
theorem keys_right (sl : List UInt8) : rightB (kKey sl) (kIv sl) (kMask sl) = true := by
  unfold rightB; rw [kKey_size, kIv_size, kMask_size]; rfl
theorem Back.sealE {a b c : ByteArray} {hl cl : List UInt8} {sz nu : Nat} (h : Back a b c hl cl sz nu) (hc : cl.length ≤ 65000) : sealE a b c hl (sz : Nat) (nu : Nat) cl.length = 0 := by
  obtain ⟨h1, h2, h3, h4, h5, h6, h7, h8⟩ := h
  have hm : ((sz : Nat) : Int).toNat = sz := by omega
  have hnm : ((nu : Nat) : Int).toNat = nu := by omega
  unfold Go.Proofs.YtdkjdioccpoacaaDoor.sealE
  rw [if_pos ⟨by omega, by omega, by omega, by omega, h4, by omega⟩, hm, hnm, if_pos ⟨h6, h7⟩, if_neg (by omega), if_neg (by omega)]
end Go.Proofs.YtdkjdioccpoacaaDoor
set_option linter.unusedSimpArgs false
set_option linter.unusedVariables false
set_option maxRecDepth 100000
set_option maxHeartbeats 4000000
namespace Go.Proofs.YtdkjdioccpoacaaDoor
open Go
open List (getD_cons_zero getD_cons_succ set_cons_zero set_cons_succ)
theorem flows_calls (w : World) (hZ : TabZ w) : Ret Tryd.prog 7 #[] w fun v w' => v = BV true ∧ Chg [] w w' := by
 refine Ret.enter Tryd.func7 rfl ?_
 simp only [Tryd.ntmps7, fe, Nat.reduceAdd, Nat.reduceSub]
 have hH := Hp.start [] w
 refine wp_seq_k ?_
 intro K1 hK1
 refine wrt [.p 0] ?_
 refine pa ?_;simp only [nf]
 refine plan_nil hH ?_
 clear hH
 intro w2 hH
 refine hK1 _ _ ?_
 (try clear hK1 K1)
 refine wp_seq_k ?_
 intro K3 hK3
 refine wrt [.x 0, .p 1, .p 2, .p 3, .p 4, .p 5] ?_
 refine plan_callx rfl rfl hH cf21 (fun w' hH => put_calls _ w' (hZ.grow hH.chg) (by first | decide | omega)) rfl (fun _ _ _ h => by obtain ⟨_, _, _, _, hg, _⟩ := h; exact hg) ?_
 clear hH
 intro w4 v5 w6 hH hp7
 obtain ⟨o8, cap9, cs10, rfl, hg, hO11, hfr⟩ := hp7
 replace hH := hH.callown hg hfr
 clear hg hfr
 (try simp only [nf, nh, Value.cells, arrB_set] at hH ⊢)
 (try simp only [nf])
 refine pm ?_;simp only [nf]
 refine pp rfl rfl (pr_extract rfl rfl) ?_;simp only [nf]
 refine pp rfl rfl (pr_extract rfl rfl) ?_;simp only [nf]
 refine pa (pa ?_);simp only [nf]
 refine plan_nil hH ?_
 clear hH
 intro w12 hH
 refine hK3 _ _ ?_
 (try clear hK3 K3)
 refine wp_seq_k ?_
 intro K13 hK13
 refine wrt [.p 0, .p 1, .p 2, .p 3, .q 4, .p 5, .p 6, .p 7] ?_
 refine pm ?_;simp only [nf]
 refine pp rfl rfl (pr_bin rfl rfl (by first | exact bin_eql_n (n := 0)  | exact bin_eql_i)) ?_;simp only [nf]
 refine plan_p (v := BV true) rfl rfl (pr_move_v rfl) ?_
 (try simp only [nf])
 refine pp rfl rfl pr_move ?_;simp only [nf]
 refine pq rfl rfl (qr_b2s (OwnC.sl hH 0 rfl hO11) rfl Tryd.underlying29 Tryd.underlying5 Tryd.underlying9) ?_;simp only [nf]
 refine pp rfl rfl (pr_bin rfl rfl bin_eql_s) ?_;simp only [nf]
 refine pp rfl rfl (pr_pick_t rfl) ?_;simp only [nf]
 refine pa ?_;simp only [nf]
 refine plan_nil hH ?_
 clear hH
 intro w14 hH
 refine hK13 _ _ ?_
 (try clear hK13 K13)
 refine wp_ret ?_
 (try simp only [Exit.then, Exit.inBlock, ↓reduceIte, Nat.reduceEqDiff])
 refine BP.ret1 rfl rfl ?_
 refine ⟨congrArg BV (beq_iff_eq.2 ?_), hH.chg⟩
 rfl
theorem secrets_calls (fa fb : Nat → UInt8) (lb : ByteArray) (w : World) (hT : Tabs w) (hZ : TabZ w) : Ret Tryd.prog 3 #[.agg (arr8 32 fa), .agg (arr8 32 fb), .string lb] w fun v w' => v = BV true ∧ Chg [] w w' := by
 have hz1 : ((List.range 32).all fun i => fTimes fa (fTimes fb base9) i == 0) = false := (fTimes_comm fa fb).2
 have hz2 : ((List.range 32).all fun i => fTimes fb (fTimes fa base9) i == 0) = false := (fTimes_comm fb fa).2
 have hss : arr8 32 (fTimes fb (fTimes fa base9)) = arr8 32 (fTimes fa (fTimes fb base9)) := arr8_congr (fTimes_comm fb fa).1
 have hnm : (lb.extract 0 (min lb.size 100)).size ≤ 249 := by rw [ByteArray.size_extract]; omega
 refine Ret.enter Tryd.func3 rfl ?_
 simp only [Tryd.ntmps3, fe, Nat.reduceAdd, Nat.reduceSub]
 have hH := Hp.start [] w
 refine wp_seq_k ?_
 intro K1 hK1
 refine wrt [.x 0, .x 1, .p 2] ?_
 refine plan_box rfl rfl hH rfl ?_
 clear hH
 intro b2 w3 hH
 (try simp only [nf, nh, Value.cells, arrB_set] at hH ⊢)
 refine plan_box rfl rfl hH rfl ?_
 clear hH
 intro b4 w5 hH
 (try simp only [nf, nh, Value.cells, arrB_set] at hH ⊢)
 refine pa ?_;simp only [nf]
 refine plan_nil hH ?_
 clear hH
 intro w6 hH
 refine hK1 _ _ ?_
 (try clear hK1 K1)
 refine wp_seq_k ?_
 intro K7 hK7
 refine wrt [.p 0, .p 1, .p 2, .p 3, .p 4, .p 5] ?_
 refine pm (pm ?_);simp only [nf]
 refine pp rfl rfl (pr_len_str rfl Tryd.underlying9) ?_;simp only [nf]
 refine pp rfl rfl (by first | exact pr_min_n (n := 100) rfl rfl | exact pr_min rfl rfl) ?_;simp only [nf]
 refine pp rfl rfl (pr_slice_str_h rfl rfl Tryd.underlying9 (by omega)) ?_;simp only [nf]
 refine pa ?_;simp only [nf]
 refine plan_nil hH ?_
 clear hH
 intro w8 hH
 refine hK7 _ _ ?_
 (try clear hK7 K7)
 refine wp_seq_k ?_
 intro K9 hK9
 refine wrp [.q 0, .q 1, .q 2, .q 3, .p 4, .p 5, .p 6, .x 7, .e 8, .p 9] ?_
 refine pq rfl rfl (qr_loadW rfl (hH.blk 0 rfl) Tryd.underlying22 rfl sz22 (by simp)) ?_;simp only [nf]
 refine pq rfl rfl (qr_loadW rfl (hH.blk 1 rfl) Tryd.underlying22 rfl sz22 (by simp)) ?_;simp only [nf]
 refine pq rfl rfl (qr_call cf6 (fun w' hw => cpublic_calls _ w') rfl) ?_;simp only [nf]
 refine pq rfl rfl (qr_call cf5 (fun w' hw => cshared_calls _ _ w' hz1) rfl) ?_;simp only [nf]
 refine pm ?_;simp only [nf]
 refine pp rfl rfl (pr_extract rfl rfl) ?_;simp only [nf]
 refine pp rfl rfl (pr_extract rfl rfl) ?_;simp only [nf]
 refine plan_alloc rfl rfl hH zc22 ?_
 clear hH
 intro b10 w11 hH
 (try simp only [nf, nh, Value.cells, arrB_set] at hH ⊢)
 refine plan_storeW 2 rfl rfl hH rfl rfl rfl one_arr8 sz22 (by simp) (by simp) ?_
 clear hH
 intro w12 hH
 (try simp only [nf, nh, Value.cells, arrB_set] at hH ⊢)
 refine pa ?_;simp only [nf]
 refine plan_nil hH ?_
 clear hH
 intro w13 hH
 refine hK9 _ _ ?_
 (try clear hK9 K9)
 refine wp_seq_k ?_
 intro K14 hK14
 refine wrp [.q 0, .q 1, .q 2, .q 3, .p 4, .p 5, .p 6, .x 7, .e 8, .p 9] ?_
 refine pq rfl rfl (qr_loadW rfl (hH.blk 1 rfl) Tryd.underlying22 rfl sz22 (by simp)) ?_;simp only [nf]
 refine pq rfl rfl (qr_loadW rfl (hH.blk 0 rfl) Tryd.underlying22 rfl sz22 (by simp)) ?_;simp only [nf]
 refine pq rfl rfl (qr_call cf6 (fun w' hw => cpublic_calls _ w') rfl) ?_;simp only [nf]
 refine pq rfl rfl (qr_call cf5 (fun w' hw => cshared_calls _ _ w' hz2) rfl) ?_;simp only [nf]
 refine pm ?_;simp only [nf]
 refine pp rfl rfl (pr_extract rfl rfl) ?_;simp only [nf]
 refine pp rfl rfl (pr_extract rfl rfl) ?_;simp only [nf]
 refine plan_alloc rfl rfl hH zc22 ?_
 clear hH
 intro b15 w16 hH
 (try simp only [nf, nh, Value.cells, arrB_set] at hH ⊢)
 refine plan_storeW 3 rfl rfl hH rfl rfl rfl one_arr8 sz22 (by simp) (by simp) ?_
 clear hH
 intro w17 hH
 (try simp only [nf, nh, Value.cells, arrB_set] at hH ⊢)
 refine pa ?_;simp only [nf]
 refine plan_nil hH ?_
 clear hH
 intro w18 hH
 rw [hss] at hH
 rw [hss]
 clear hss hz1 hz2
 generalize (fTimes fa (fTimes fb base9)) = sf at *
 refine hK14 _ _ ?_
 (try clear hK14 K14)
 refine wp_seq_k ?_
 intro K19 hK19
 refine wp_seq_k ?_
 intro K20 hK20
 refine wrt [.q 0, .p 1, .p 2, .p 3, .p 4, .p 5, .p 6, .p 7, .p 8, .p 9, .p 10, .q 11, .q 12, .p 13, .p 14] ?_
 refine pq rfl rfl (qr_call cf7 (fun w' hw => flows_calls w' (hZ.grow (hH.chg.trans hw))) rfl) ?_;simp only [nf]
 refine pp rfl rfl (pr_not rfl) ?_;simp only [nf]
 refine plan_p (v := BV false) rfl rfl (pr_move_v rfl) ?_
 (try simp only [nf])
 refine pp rfl rfl pr_move ?_;simp only [nf]
 refine pp rfl rfl (pr_bin rfl rfl (by first | exact bin_neq_n (n := 0)  | exact bin_neq_i)) ?_;simp only [nf]
 refine pp rfl rfl (pr_pick_f rfl) ?_;simp only [nf]
 refine plan_p (v := BV false) rfl rfl (pr_move_v rfl) ?_
 (try simp only [nf])
 refine pp rfl rfl pr_move ?_;simp only [nf]
 refine pp rfl rfl (pr_bin rfl rfl (by first | exact bin_neq_n (n := 0)  | exact bin_neq_i)) ?_;simp only [nf]
 refine pp rfl rfl (pr_pick_f rfl) ?_;simp only [nf]
 refine plan_p (v := BV false) rfl rfl (pr_move_v rfl) ?_
 (try simp only [nf])
 refine pq rfl rfl (qr_loadW rfl (hH.blk 2 rfl) Tryd.underlying22 rfl sz22 (by simp)) ?_;simp only [nf]
 refine pq rfl rfl (qr_loadW rfl (hH.blk 3 rfl) Tryd.underlying22 rfl sz22 (by simp)) ?_;simp only [nf]
 refine pp rfl rfl (pr_bin rfl rfl (bin_neq_arr8 Tryd.underlying22 Tryd.underlying5 sz5 Tryd.eqGuardType22)) ?_;simp only [nf]
 refine pp rfl rfl (pr_pick_f rfl) ?_;simp only [nf]
 refine plan_nil hH ?_
 clear hH
 intro w21 hH
 refine hK20 _ _ ?_
 (try clear hK20 K20)
 refine wp_cond_false (by show BV _ = _; simp) ?_
 refine wp_skip ?_
 refine hK19 _ _ ?_
 (try clear hK19 K19)
 refine wp_seq_k ?_
 intro K22 hK22
 refine wrt [.p 0, .q 1, .x 2, .e 3] ?_
 refine pp rfl rfl (pr_slice_arr_all rfl Tryd.underlying22 sz5) ?_;simp only [nf]
 (try simp only [Nat.mul_one, Nat.zero_add, Nat.add_sub_cancel_left])
 refine pq rfl rfl (qr_call cf8 (fun w' hw => shaOf_calls _ _ w' (hT.grow (hH.chg.trans hw)) ((Sl.of_arr8 (hH.blk 2 rfl) (by omega) (by omega)).chg hw) (by simp)) rfl) ?_;simp only [nf]
 refine plan_alloc rfl rfl hH zc22 ?_
 clear hH
 intro b23 w24 hH
 (try simp only [nf, nh, Value.cells, arrB_set] at hH ⊢)
 refine plan_storeW 4 rfl rfl hH rfl rfl rfl one_arr8 sz22 (by simp) (by simp) ?_
 clear hH
 intro w25 hH
 (try simp only [nf, nh, Value.cells, arrB_set] at hH ⊢)
 refine plan_nil hH ?_
 clear hH
 intro w26 hH
 refine hK22 _ _ ?_
 (try clear hK22 K22)
 refine wp_seq_k ?_
 intro K27 hK27
 refine wrp [.p 0, .p 1, .p 2, .x 3, .p 4, .p 5, .p 6, .p 7, .p 8] ?_
 refine pp rfl rfl (pr_slice_arr_all rfl Tryd.underlying22 sz5) ?_;simp only [nf]
 (try simp only [Nat.mul_one, Nat.zero_add, Nat.add_sub_cancel_left])
 refine pm ?_;simp only [nf]
 refine pp rfl rfl (pr_slice_arr_all rfl Tryd.underlying22 sz5) ?_;simp only [nf]
 (try simp only [Nat.mul_one, Nat.zero_add, Nat.add_sub_cancel_left])
 refine plan_callx rfl rfl hH cf9 (fun w' hH => label2_calls _ _ _ _ _ _ w' (hT.grow hH.chg) (Sl.of_arr8 (hH.blk 2 rfl) (by omega) (by omega)) (Sl.of_arr8 (hH.blk 4 rfl) (by omega) (by omega)) (by simp) hnm (by simp [shaD]) (by decide)) rfl (fun _ _ _ h => by obtain ⟨_, _, _, hg, _⟩ := h; exact hg) ?_
 clear hH
 intro w28 v29 w30 hH hp31
 obtain ⟨o32, cs33, rfl, hg, hO34, hfr⟩ := hp31
 replace hH := hH.callown hg hfr
 clear hg hfr
 (try simp only [nf, nh, Value.cells, arrB_set] at hH ⊢)
 (try simp only [nf])
 refine pm ?_;simp only [nf]
 refine pp rfl rfl (pr_extract rfl rfl) ?_;simp only [nf]
 refine pp rfl rfl (pr_extract rfl rfl) ?_;simp only [nf]
 refine pa (pa ?_);simp only [nf]
 refine plan_nil hH ?_
 clear hH
 intro w35 hH
 refine hK27 _ _ ?_
 (try clear hK27 K27)
 refine wp_seq_k ?_
 intro K36 hK36
 refine wrp [.p 0, .p 1, .p 2, .x 3, .p 4, .p 5, .p 6, .p 7, .p 8] ?_
 refine pp rfl rfl (pr_slice_arr_all rfl Tryd.underlying22 sz5) ?_;simp only [nf]
 (try simp only [Nat.mul_one, Nat.zero_add, Nat.add_sub_cancel_left])
 refine pm ?_;simp only [nf]
 refine pp rfl rfl (pr_slice_arr_all rfl Tryd.underlying22 sz5) ?_;simp only [nf]
 (try simp only [Nat.mul_one, Nat.zero_add, Nat.add_sub_cancel_left])
 refine plan_callx rfl rfl hH cf9 (fun w' hH => label2_calls _ _ _ _ _ _ w' (hT.grow hH.chg) (Sl.of_arr8 (hH.blk 3 rfl) (by omega) (by omega)) (Sl.of_arr8 (hH.blk 4 rfl) (by omega) (by omega)) (by simp) hnm (by simp [shaD]) (by decide)) rfl (fun _ _ _ h => by obtain ⟨_, _, _, hg, _⟩ := h; exact hg) ?_
 clear hH
 intro w37 v38 w39 hH hp40
 obtain ⟨o41, cs42, rfl, hg, hO43, hfr⟩ := hp40
 replace hH := hH.callown hg hfr
 clear hg hfr
 (try simp only [nf, nh, Value.cells, arrB_set] at hH ⊢)
 (try simp only [nf])
 refine pm ?_;simp only [nf]
 refine pp rfl rfl (pr_extract rfl rfl) ?_;simp only [nf]
 refine pp rfl rfl (pr_extract rfl rfl) ?_;simp only [nf]
 refine pa (pa ?_);simp only [nf]
 refine plan_nil hH ?_
 clear hH
 intro w44 hH
 generalize hxe : labL _ _ _ 32 = xl at *
 have hxl : xl.length = 32 := by rw [← hxe]; exact labL_len _ _ _ 32
 clear hxe
 refine hK36 _ _ ?_
 (try clear hK36 K36)
 refine wp_seq_k ?_
 intro K45 hK45
 refine wp_seq_k ?_
 intro K46 hK46
 refine wrt [.p 0, .p 1, .p 2, .p 3, .p 4, .p 5, .p 6, .p 7, .q 8, .p 9, .q 10, .p 11, .p 12] ?_
 refine pm ?_;simp only [nf]
 refine pp rfl rfl (pr_bin rfl rfl (by first | exact bin_neq_n (n := 0)  | exact bin_neq_i)) ?_;simp only [nf]
 refine plan_p (v := BV false) rfl rfl (pr_move_v rfl) ?_
 (try simp only [nf])
 refine pp rfl rfl pr_move ?_;simp only [nf]
 refine pp rfl rfl (pr_bin rfl rfl (by first | exact bin_neq_n (n := 0)  | exact bin_neq_i)) ?_;simp only [nf]
 refine pp rfl rfl (pr_pick_f rfl) ?_;simp only [nf]
 refine plan_p (v := BV false) rfl rfl (pr_move_v rfl) ?_
 (try simp only [nf])
 refine pp rfl rfl pr_move ?_;simp only [nf]
 refine pq rfl rfl (qr_b2s (OwnD.sl hH 5 rfl hO34) rfl Tryd.underlying29 Tryd.underlying5 Tryd.underlying9) ?_;simp only [nf]
 refine pp rfl rfl pr_move ?_;simp only [nf]
 refine pq rfl rfl (qr_b2s (OwnD.sl hH 6 rfl hO43) rfl Tryd.underlying29 Tryd.underlying5 Tryd.underlying9) ?_;simp only [nf]
 refine pp rfl rfl (pr_bin rfl rfl bin_neq_s) ?_;simp only [nf]
 refine pp rfl rfl (pr_pick_f rfl) ?_;simp only [nf]
 refine plan_nil hH ?_
 clear hH
 intro w47 hH
 refine hK46 _ _ ?_
 (try clear hK46 K46)
 refine wp_cond_false (by show BV _ = _; simp) ?_
 refine wp_skip ?_
 refine hK45 _ _ ?_
 (try clear hK45 K45)
 refine wp_seq_k ?_
 intro K48 hK48
 refine wrt [.p 0, .q 1, .q 2, .p 3, .p 4, .p 5, .x 6, .e 7, .p 8] ?_
 refine pm ?_;simp only [nf]
 refine pq rfl rfl (qr_b2s (OwnD.sl hH 5 rfl hO34) rfl Tryd.underlying29 Tryd.underlying5 Tryd.underlying9) ?_;simp only [nf]
 refine pq rfl rfl (qr_call cf10 (fun w' hw => keysOf_calls _ w' (hT.grow (hH.chg.trans hw)) (by rw [bsz, hxl])) rfl) ?_;simp only [nf]
 refine pm ?_;simp only [nf]
 refine pp rfl rfl (pr_extract rfl rfl) ?_;simp only [nf]
 refine pp rfl rfl (pr_extract rfl rfl) ?_;simp only [nf]
 refine plan_alloc rfl rfl hH zc33 ?_
 clear hH
 intro b49 w50 hH
 (try simp only [nf, nh, Value.cells, arrB_set] at hH ⊢)
 refine plan_storeW 7 rfl rfl hH rfl rfl rfl (by simp [Value.oneCell']) sz33 (by simp) (by simp) ?_
 clear hH
 intro w51 hH
 (try simp only [nf, nh, Value.cells, arrB_set] at hH ⊢)
 refine pa ?_;simp only [nf]
 refine plan_nil hH ?_
 clear hH
 intro w52 hH
 refine hK48 _ _ ?_
 (try clear hK48 K48)
 refine wp_seq_k ?_
 intro K53 hK53
 refine wrt [.p 0, .q 1, .q 2, .p 3, .p 4, .p 5, .x 6, .e 7, .p 8] ?_
 refine pm ?_;simp only [nf]
 refine pq rfl rfl (qr_b2s (OwnD.sl hH 6 rfl hO43) rfl Tryd.underlying29 Tryd.underlying5 Tryd.underlying9) ?_;simp only [nf]
 refine pq rfl rfl (qr_call cf10 (fun w' hw => keysOf_calls _ w' (hT.grow (hH.chg.trans hw)) (by rw [bsz, hxl])) rfl) ?_;simp only [nf]
 refine pm ?_;simp only [nf]
 refine pp rfl rfl (pr_extract rfl rfl) ?_;simp only [nf]
 refine pp rfl rfl (pr_extract rfl rfl) ?_;simp only [nf]
 refine plan_alloc rfl rfl hH zc33 ?_
 clear hH
 intro b54 w55 hH
 (try simp only [nf, nh, Value.cells, arrB_set] at hH ⊢)
 refine plan_storeW 8 rfl rfl hH rfl rfl rfl (by simp [Value.oneCell']) sz33 (by simp) (by simp) ?_
 clear hH
 intro w56 hH
 (try simp only [nf, nh, Value.cells, arrB_set] at hH ⊢)
 refine pa ?_;simp only [nf]
 refine plan_nil hH ?_
 clear hH
 intro w57 hH
 have hr := keys_right xl
 generalize kKey xl = KA at *
 generalize kIv xl = KB at *
 generalize kMask xl = KC at *
 have hB : Back KA KB KC ([64, 110, 97, 109, 101, 110, 97, 109, 101, 5] : List UInt8) ([99, 97, 114, 114, 105, 101, 100] : List UInt8) 1 5 := ⟨by decide, by decide, by decide, hr, by decide, by decide, by decide, by decide⟩
 refine hK53 _ _ ?_
 (try clear hK53 K53)
 refine wp_seq_k ?_
 intro K58 hK58
 refine wrt [.q 0, .x 1, .e 2, .x 3, .e 4, .x 5, .p 6, .p 7, .p 8, .p 9, .p 10] ?_
 refine pq rfl rfl (qr_loadW rfl (hH.blk 7 rfl) Tryd.underlying33 rfl sz33 (by simp)) ?_;simp only [nf]
 refine plan_buildSlice rfl rfl hH Tryd.underlying29 (by rfl) (bs10 64 110 97 109 101 110 97 109 101 5) ?_
 clear hH
 intro b59 w60 hH
 (try simp only [nf, nh, Value.cells, arrB_set] at hH ⊢)
 refine plan_mark 9 rfl rfl hH rfl rfl Tryd.underlying29 Tryd.underlying5 ?_
 clear hH
 intro w61 hH
 (try simp only [nf] at hH ⊢)
 (try simp only [nf, nh, Value.cells, arrB_set] at hH ⊢)
 refine plan_buildSlice rfl rfl hH Tryd.underlying29 (by rfl) (bs7 99 97 114 114 105 101 100) ?_
 clear hH
 intro b62 w63 hH
 (try simp only [nf, nh, Value.cells, arrB_set] at hH ⊢)
 refine plan_mark 10 rfl rfl hH rfl rfl Tryd.underlying29 Tryd.underlying5 ?_
 clear hH
 intro w64 hH
 (try simp only [nf] at hH ⊢)
 (try simp only [nf, nh, Value.cells, arrB_set] at hH ⊢)
 refine plan_callx rfl rfl hH cf11 (fun w' hH => (gseal_calls KA KB KC _ _ ([64, 110, 97, 109, 101, 110, 97, 109, 101, 5] : List UInt8) ([99, 97, 114, 114, 105, 101, 100] : List UInt8) ((1 : Nat) : Int) ((5 : Nat) : Int) w' (OwnC.sl hH 9 rfl (OwnC.of_bytes rfl)) (OwnC.sl hH 10 rfl (OwnC.of_bytes rfl)) (by decide) (by decide) (by decide) (by decide)).mono fun v w' h => h.1 (hB.sealE (by decide))) rfl (fun _ _ _ h => by obtain ⟨_, _, _, _, hg, _⟩ := h; exact hg) ?_
 clear hH
 intro w65 v66 w67 hH hp68
 obtain ⟨o69, cap70, cs71, rfl, hg, hO72, hfr⟩ := hp68
 replace hH := hH.callown hg hfr
 clear hg hfr
 (try simp only [nf, nh, Value.cells, arrB_set] at hH ⊢)
 (try simp only [nf])
 refine pm ?_;simp only [nf]
 refine pp rfl rfl (pr_extract rfl rfl) ?_;simp only [nf]
 refine pp rfl rfl (pr_extract rfl rfl) ?_;simp only [nf]
 refine pa (pa ?_);simp only [nf]
 refine plan_nil hH ?_
 clear hH
 intro w73 hH
 replace hO72 : OwnC _ _ _ 1 _ ((sealOut KA KB KC ([64, 110, 97, 109, 101, 110, 97, 109, 101, 5] : List UInt8) 1 5 ([99, 97, 114, 114, 105, 101, 100] : List UInt8)).map V8) := hO72
 refine hK58 _ _ ?_
 (try clear hK58 K58)
 refine wp_seq_k ?_
 intro K74 hK74
 refine wrt [.q 0, .p 1, .x 2, .p 3, .p 4, .p 5, .p 6, .p 7, .p 8, .p 9, .p 10, .p 11] ?_
 refine pq rfl rfl (qr_loadW rfl (hH.blk 8 rfl) Tryd.underlying33 rfl sz33 (by simp)) ?_;simp only [nf]
 refine pm ?_;simp only [nf]
 refine plan_callx rfl rfl hH cf12 (fun w' hH => gopen_back KA KB KC ([64, 110, 97, 109, 101, 110, 97, 109, 101, 5] : List UInt8) ([99, 97, 114, 114, 105, 101, 100] : List UInt8) 1 5 3 _ w' hB (by decide) (by decide) (by decide) (OwnC.sl hH 11 rfl hO72) (by decide) (by decide)) rfl (fun _ _ _ h => by obtain ⟨_, _, _, _, _, _, hg, _⟩ := h; exact hg.chg) ?_
 clear hH
 intro w75 v76 w77 hH hp78
 obtain ⟨o79, cs80, o81, cap82, cs83, rfl, hg, hD84, hO85⟩ := hp78
 replace hH := hH.join hg
 clear hg
 (try simp only [nf, nh, Value.cells, arrB_set] at hH ⊢)
 (try simp only [nf])
 refine pm ?_;simp only [nf]
 refine pp rfl rfl (pr_extract rfl rfl) ?_;simp only [nf]
 refine pp rfl rfl (pr_extract rfl rfl) ?_;simp only [nf]
 refine pp rfl rfl (pr_extract rfl rfl) ?_;simp only [nf]
 refine pp rfl rfl (pr_extract rfl rfl) ?_;simp only [nf]
 refine pa (pa (pa (pa ?_)));simp only [nf]
 refine plan_nil hH ?_
 clear hH
 intro w86 hH
 refine hK74 _ _ ?_
 (try clear hK74 K74)
 refine wp_seq_k ?_
 intro K87 hK87
 refine wrt [.p 0, .p 1, .p 2, .p 3, .p 4, .p 5, .p 6, .p 7, .p 8, .p 9, .p 10, .p 11, .p 12, .p 13, .p 14, .p 15, .p 16, .p 17, .p 18, .p 19, .q 20, .p 21, .p 22, .p 23, .p 24, .q 25, .p 26, .p 27, .p 28] ?_
 refine pm ?_;simp only [nf]
 refine pp rfl rfl (pr_bin rfl rfl (by first | exact bin_eql_n (n := 0)  | exact bin_eql_i)) ?_;simp only [nf]
 refine plan_p (v := BV true) rfl rfl (pr_move_v rfl) ?_
 (try simp only [nf])
 refine pp rfl rfl pr_move ?_;simp only [nf]
 refine pp rfl rfl (pr_bin rfl rfl (by first | exact bin_eql_n (n := 0)  | exact bin_eql_i)) ?_;simp only [nf]
 refine pp rfl rfl (pr_pick_t rfl) ?_;simp only [nf]
 refine plan_p (v := BV true) rfl rfl (pr_move_v rfl) ?_
 (try simp only [nf])
 refine pp rfl rfl pr_move ?_;simp only [nf]
 refine pp rfl rfl (pr_bin rfl rfl (by first | exact bin_eql_n (n := 0)  | exact bin_eql_i)) ?_;simp only [nf]
 refine pp rfl rfl (pr_pick_t rfl) ?_;simp only [nf]
 refine plan_p (v := BV true) rfl rfl (pr_move_v rfl) ?_
 (try simp only [nf])
 refine pp rfl rfl pr_move ?_;simp only [nf]
 refine pp rfl rfl (pr_bin rfl rfl (by first | exact bin_eql_n (n := 0)  | exact bin_eql_i)) ?_;simp only [nf]
 refine pp rfl rfl (pr_pick_t rfl) ?_;simp only [nf]
 refine plan_p (v := BV true) rfl rfl (pr_move_v rfl) ?_
 (try simp only [nf])
 refine pp rfl rfl pr_move ?_;simp only [nf]
 refine pp rfl rfl (pr_bin rfl rfl (by first | exact bin_eql_n (n := 5)  | exact bin_eql_i)) ?_;simp only [nf]
 refine pp rfl rfl (pr_pick_t rfl) ?_;simp only [nf]
 refine plan_p (v := BV true) rfl rfl (pr_move_v rfl) ?_
 (try simp only [nf])
 refine pp rfl rfl pr_move ?_;simp only [nf]
 refine pq rfl rfl (qr_b2s (OwnC.sl hH 13 rfl hO85) rfl Tryd.underlying29 Tryd.underlying5 Tryd.underlying9) ?_;simp only [nf]
 refine pp rfl rfl (pr_bin rfl rfl bin_eql_s) ?_;simp only [nf]
 refine pp rfl rfl (pr_pick_t rfl) ?_;simp only [nf]
 refine plan_p (v := BV true) rfl rfl (pr_move_v (by show BV _ = _; exact congrArg BV (beq_self_eq_true _))) ?_
 (try simp only [nf])
 refine pp rfl rfl pr_move ?_;simp only [nf]
 refine pq rfl rfl (qr_b2s (OwnD.sl hH 12 rfl hD84) rfl Tryd.underlying29 Tryd.underlying5 Tryd.underlying9) ?_;simp only [nf]
 refine pp rfl rfl (pr_bin rfl rfl bin_eql_s) ?_;simp only [nf]
 refine pp rfl rfl (pr_pick_t rfl) ?_;simp only [nf]
 refine pa ?_;simp only [nf]
 refine plan_nil hH ?_
 clear hH
 intro w88 hH
 refine hK87 _ _ ?_
 (try clear hK87 K87)
 refine wp_ret ?_
 (try simp only [Exit.then, Exit.inBlock, ↓reduceIte, Nat.reduceEqDiff])
 refine BP.ret1 rfl rfl ?_
 exact ⟨congrArg BV (beq_self_eq_true _), hH.chg⟩
end Go.Proofs.YtdkjdioccpoacaaDoor
set_option linter.unusedSimpArgs false
set_option linter.unusedVariables false
set_option maxRecDepth 100000
set_option maxHeartbeats 4000000
namespace Go.Proofs.YtdkjdioccpoacaaDoor
open Go
open List (getD_cons_zero getD_cons_succ set_cons_zero set_cons_succ)
open Go.ChangeShapes Go.WideShapes Go.RowKit
def laidL : List (String × DataW Unit) := [("math/bits.deBruijn32tab", Rows.laid_math_bits_deBruijn32tab), ("math/bits.deBruijn64tab", Rows.laid_math_bits_deBruijn64tab), ("rhyne/sha.first", Rows.laid_rhyne_sha_first), ("rhyne/sha.round", Rows.laid_rhyne_sha_round)]
theorem gB64 : Tryd.prog.globalNamed "math/bits.deBruijn64tab" = some 3 := by kernel_rfl
theorem tB64 : (Tryd.prog.globals[3]?).map (·.type) = some 160 := by kernel_rfl
theorem gFirst : Tryd.prog.globalNamed "rhyne/sha.first" = some 0 := by kernel_rfl
theorem gRound : Tryd.prog.globalNamed "rhyne/sha.round" = some 1 := by kernel_rfl
theorem tFirst : (Tryd.prog.globals[0]?).map (·.type) = some 118 := by kernel_rfl
theorem tRound : (Tryd.prog.globals[1]?).map (·.type) = some 158 := by kernel_rfl
theorem door_met (os : Os) (args : Array Value) : laidMetH Tryd.prog laidL ((World.doorLaid Tryd.prog 400 os).forCall (fun _ _ => 0) ⟨#[], args, []⟩).memory :=
  laidMetH_of_parts3 (fuel := 8) (laidMet_of_run' 8 (by kernel_rfl) (by kernel_rfl)) (by kernel_rfl) (by kernel_rfl)
theorem laid_cells {P : Program} {w : World} {sp : Nat → Bool} {hd : Bool} {enc : TypeId × Value → Unit} {t e : TypeId} {n fuel : Nat} {cs : List Value} {f : Nat → UInt32} {ds : List (DataW Unit)} {m : List MemPlace} (hu : P.underlying t = some (.array n e)) (he : P.underlying e = some (.int .u32)) (hc : P.cellsOf e = 1)
    (h : DataW.trod enc P w 0 sp hd fuel t cs = some (.agg ds, m)) (hf : ∀ i, i < n → ds[i]? = some (.lit (.int .u32 (f i).toNat))) : ∀ i, i < n → cs[i]? = some (V32 (f i)) := by
  obtain ⟨xs, k, rfl, hx, hlen, hxs, hall⟩ := DataW.trod_array hu h
  simp only [Prod.mk.injEq, DataW.agg.injEq] at hx
  intro i hi
  have h1 := hall i hi
  rw [hc, Nat.mul_one] at h1
  have hy : xs[i]? = some (xs[i]'(by omega)) := by rw [List.getElem?_eq_getElem]
  rw [hy] at h1
  obtain ⟨z, hz, hz2, _⟩ := DataW.trod_int he h1
  have hfi := hf i hi
  rw [hx.1, List.getElem?_map, hy, hz2] at hfi
  simp only [Option.map_some, Option.some.injEq, DataW.lit.injEq, Lit.int.injEq, true_and] at hfi
  subst hfi
  have := congrArg (·[0]?) hz
  simpa using this
theorem laid_cells8 {P : Program} {w : World} {sp : Nat → Bool} {hd : Bool} {enc : TypeId × Value → Unit} {t e : TypeId} {n fuel : Nat} {cs : List Value} {f : Nat → UInt8} {ds : List (DataW Unit)} {m : List MemPlace} (hu : P.underlying t = some (.array n e)) (he : P.underlying e = some (.int .u8)) (hc : P.cellsOf e = 1)
    (h : DataW.trod enc P w 0 sp hd fuel t cs = some (.agg ds, m)) (hf : ∀ i, i < n → ds[i]? = some (.lit (.int .u8 (f i).toNat))) : ∀ i, i < n → cs[i]? = some (V8 (f i)) := by
  obtain ⟨xs, k, rfl, hx, hlen, hxs, hall⟩ := DataW.trod_array hu h
  simp only [Prod.mk.injEq, DataW.agg.injEq] at hx
  intro i hi
  have h1 := hall i hi
  rw [hc, Nat.mul_one] at h1
  have hy : xs[i]? = some (xs[i]'(by omega)) := by rw [List.getElem?_eq_getElem]
  rw [hy] at h1
  obtain ⟨z, hz, hz2, _⟩ := DataW.trod_int he h1
  have hfi := hf i hi
  rw [hx.1, List.getElem?_map, hy, hz2] at hfi
  simp only [Option.map_some, Option.some.injEq, DataW.lit.injEq, Lit.int.injEq, true_and] at hfi
  subst hfi
  have := congrArg (·[0]?) hz
  simpa using this
theorem tabs_of_laid {W : World} (h : laidMetH Tryd.prog laidL W) : Tabs W ∧ TabZ W := by
  rw [MakeChecks.laidMetH_plain _ _ _ (by kernel_rfl)] at h
  obtain ⟨ps, ⟨_, _, _, _, _, _, _, _, _, _, ⟨g2, t2, cs2, f2, p2, q2, hg2, ht2, hv2, hd2, ⟨g0, t0, cs0, f0, p0, q0, hg0, ht0, hv0, hd0, ⟨g1, t1, cs1, f1, p1, q1, hg1, ht1, hv1, hd1, _, _⟩, _⟩, _⟩, _⟩, _, _⟩ := h
  obtain rfl := Option.some.inj (gB64.symm.trans hg2)
  obtain rfl := Option.some.inj (tB64.symm.trans ht2)
  obtain rfl := Option.some.inj (gFirst.symm.trans hg0)
  obtain rfl := Option.some.inj (gRound.symm.trans hg1)
  obtain rfl := Option.some.inj (tFirst.symm.trans ht0)
  obtain rfl := Option.some.inj (tRound.symm.trans ht1)
  have c1 : Tryd.prog.cellsOf 117 = 1 := by kernel_rfl
  have c8 : Tryd.prog.cellsOf 5 = 1 := by kernel_rfl
  refine ⟨⟨fun i hi => ?_, fun i hi => ?_⟩, fun i hi => ?_⟩
  · rw [World.var?_cell hg0 hv0 i, ← Array.getElem?_toList]
    refine laid_cells Tryd.underlying118 Tryd.underlying117 c1 hd0 (fun j hj => ?_) i hi
    have : ((List.range 8).all fun j => match (Rows.laid_rhyne_sha_first : DataW Unit) with | .agg l => (match l[j]? with | some (.lit (.int .u32 z)) => z == ((shaH j).toNat : Int) | _ => false) | _ => false) = true := by kernel_rfl
    have h2 := List.all_eq_true.1 this j (List.mem_range.2 hj)
    simp only [Rows.laid_rhyne_sha_first] at h2
    split at h2
    · rename_i z hz; rw [hz, eq_of_beq h2]
    · cases h2
  · rw [World.var?_cell hg1 hv1 i, ← Array.getElem?_toList]
    refine laid_cells Tryd.underlying158 Tryd.underlying117 c1 hd1 (fun j hj => ?_) i hi
    have : ((List.range 64).all fun j => match (Rows.laid_rhyne_sha_round : DataW Unit) with | .agg l => (match l[j]? with | some (.lit (.int .u32 z)) => z == ((shaK j).toNat : Int) | _ => false) | _ => false) = true := by kernel_rfl
    have h2 := List.all_eq_true.1 this j (List.mem_range.2 hj)
    simp only [Rows.laid_rhyne_sha_round] at h2
    split at h2
    · rename_i z hz; rw [hz, eq_of_beq h2]
    · cases h2
  · rw [World.var?_cell hg2 hv2 i, ← Array.getElem?_toList]
    refine laid_cells8 Tryd.underlying160 Tryd.underlying5 c8 hd2 (fun j hj => ?_) i hi
    have : ((List.range 64).all fun j => match (Rows.laid_math_bits_deBruijn64tab : DataW Unit) with | .agg l => (match l[j]? with | some (.lit (.int .u8 z)) => z == ((dbj64 j).toNat : Int) | _ => false) | _ => false) = true := by kernel_rfl
    have h2 := List.all_eq_true.1 this j (List.mem_range.2 hj)
    simp only [Rows.laid_math_bits_deBruijn64tab] at h2
    split at h2
    · rename_i z hz; rw [hz, eq_of_beq h2]
    · cases h2
theorem law_lifted_laid {os : Os} {H : Type} {enc : TypeId × Value → H} {f : FuncId} {fn : Func} {s : ChangeSpec} {conds : List PathCond} {apart handsOn again : Bool} {tb : TypeId}
    (started : os.Started) (noInit : Tryd.prog.inits.idxOf? f = none) (hfn : Tryd.prog.funcs[f]? = some fn)
    (witness : ∃ (w : World) (tape : Tape) (i : Input), w.os = os ∧ (w.forCall tape i).Shaped Tryd.prog ∧ i.vars = [] ∧ Input.okWide Tryd.prog (w.forCall tape i) .any w.heap.size f i ∧
      ((s.pre enc Tryd.prog fn conds apart (w.forCall tape i).memory i.args ∧ laidMetH Tryd.prog laidL (w.forCall tape i).memory) ∧ sizedMet enc Tryd.prog fn (OpenSpec.ofChange s) apart (w.forCall tape i).memory i.args) ∧ ({} : Assume).holds Tryd.prog (lone (Frame.enter Tryd.prog f i.args .normal) [] (w.forCall tape i)))
    (hpar : (fn.params.toList.all fun t => Tryd.prog.readableRec t && decide (t < Tryd.prog.types.size)) = true) (hrt : fn.resultTypes = #[tb]) (hb : Tryd.prog.underlying tb = some .bool) (hv : s.vars = [])
    (hs : ∀ ds : List (DataW H), ds.length = fn.params.toList.length → s.fn H ds = { results := [.lit (.bool true)], args := ds })
    (walk : ∀ (W : World) (base : Nat) (args : Array Value) (ds : List (DataW H)) (p : List MemPlace), Tabs W ∧ TabZ W → (∀ (j : Nat) t v, fn.params[j]? = some t → args[j]? = some v → Value.okWide Tryd.prog W .any base t v) →
      DataW.TrodAll enc Tryd.prog W 0 (fun _ => true) true fn.params.toList args.toList ds p → (∀ (j : Nat) t d, fn.params.toList[j]? = some t → ds[j]? = some d → (d.weights Tryd.prog t).all (· ≤ reachBytes) = true) → Ret Tryd.prog f args W fun v w' => v = BV true ∧ Chg [] W w') :
    ReturnsInHanded {} Tryd.checked os f .any (fun w args => (s.pre enc Tryd.prog fn conds apart w args ∧ laidMetH Tryd.prog laidL w) ∧ sizedMet enc Tryd.prog fn (OpenSpec.ofChange s) apart w args) (s.post enc Tryd.prog fn apart true handsOn again) := by
  refine returnsInHanded_of_change_and (C := Tryd.checked) (X := fun w _ => laidMetH Tryd.prog laidL w) (fun _ _ _ hh h => h.of_heap hh) (by kernel_rfl) started noInit hfn witness ?_
  intro W base args ds gs before hval hW hcnd hwt hL _
  have hW' := hW
  obtain ⟨p, q, hA, hV, _, _, _⟩ := hW'
  have hwt' : ∀ (j : Nat) t d, fn.params.toList[j]? = some t → ds[j]? = some d → (d.weights Tryd.prog t).all (· ≤ reachBytes) = true := fun j t d h1 h2 =>
    weightsEach_at hwt j t d (by rw [List.getElem?_append_left (List.getElem?_eq_some_iff.1 h1).1]; exact h1) (by rw [List.getElem?_append_left (List.getElem?_eq_some_iff.1 h2).1]; exact h2)
  exact (walk W base args ds p (tabs_of_laid hL) hval hA hwt').calls.mono fun e w' ⟨v, he, hv', hc⟩ => ⟨v, he, by subst hv'; exact post_of_true (by kernel_rfl) hpar hrt hb hv hs hW hc⟩
end Go.Proofs.YtdkjdioccpoacaaDoor
set_option linter.unusedSimpArgs false
set_option linter.unusedVariables false
set_option maxRecDepth 100000
set_option maxHeartbeats 4000000
namespace Go.Proofs.YtdkjdioccpoacaaDoor
open Go
open List (getD_cons_zero getD_cons_succ set_cons_zero set_cons_succ)
open Go.ChangeShapes Go.WideShapes Go.RowKit
theorem rhyneSecretsLifted (os : Os) (started : os.Started) (H : Type) (enc : TypeId × Value → H) :
    ReturnsInHanded {} Tryd.checked os 3 .any (fun w args => (Rows.rhyneSecretsSpec.pre enc Tryd.prog Tryd.f3 [] false w args ∧ laidMetH Tryd.prog laidL w) ∧ sizedMet enc Tryd.prog Tryd.f3 (OpenSpec.ofChange Rows.rhyneSecretsSpec) false w args) (Rows.rhyneSecretsSpec.post enc Tryd.prog Tryd.f3 false true false false) := by
  refine law_lifted_laid started (by kernel_rfl) Tryd.func3
    (ChangeSpec.witness_shaped (enc := enc) (C := Tryd.checked) (os := os) (X := fun w _ => laidMetH Tryd.prog laidL w) false (World.doorLaid Tryd.prog 400 os) #[.agg (arr8 32 fun _ => 0), .agg (arr8 32 fun _ => 0), .string ⟨#[]⟩] 8 rfl (World.shaped_of_RefB (by kernel_rfl) (by kernel_rfl)) (by kernel_rfl) (by kernel_rfl) (by kernel_rfl) (door_met os _)) (by kernel_rfl) (by kernel_rfl) Tryd.underlying4 rfl
    (fun ds hds => ?_) ?_
  · rw [Tryd.params3] at hds
    match ds, hds with
    | [d0, d1, d2], _ => rfl
  · intro W base args ds p hT hval hA hwt
    have hval' : ∀ (j : Nat) t v, Tryd.f3.params[j]? = some t → args[j]? = some v → Value.okWide Tryd.prog W .any base t v := hval
    replace hA : DataW.TrodAll enc Tryd.prog W 0 (fun _ => true) true Tryd.f3.params.toList args.toList ds p := hA
    rw [Tryd.params3] at hA hval' hwt
    obtain ⟨v0, vs0, d0, ds0, p0, q0, hargs, rfl, rfl, h0, r0⟩ := ChangeShapes.trodAll_cons hA
    obtain ⟨v1, vs1, d1, ds1, p1, q1, rfl, rfl, rfl, h1, r1⟩ := ChangeShapes.trodAll_cons r0
    obtain ⟨v2, vs2, d2, ds2, p2, q2, rfl, rfl, rfl, h2, r2⟩ := ChangeShapes.trodAll_cons r1
    obtain ⟨rfl, rfl, rfl⟩ := ChangeShapes.trodAll_nil r2
    obtain rfl : args = #[v0, v1, v2] := by cases args; simp_all
    obtain ⟨a0, rfl⟩ := open_arr8 Tryd.underlying22 Tryd.underlying5 sz5 sz22 (hval' 0 22 v0 rfl rfl) h0
    obtain ⟨a1, rfl⟩ := open_arr8 Tryd.underlying22 Tryd.underlying5 sz5 sz22 (hval' 1 22 v1 rfl rfl) h1
    obtain ⟨s2, rfl, rfl, rfl, hs2⟩ := ChangeMaps.open_string Tryd.underlying9 (hval' 2 9 v2 rfl rfl) h2
    exact secrets_calls a0 a1 s2 W hT.1 hT.2
theorem rhyneSecrets_row : Rows.RhyneSecretsSaid :=
  OpenClaim.holds_of_wide 3 Tryd.f3 rfl rfl rfl rfl rfl rfl rfl ⟨rfl, rfl, rfl, rfl, rfl⟩ rfl rfl rfl rfl rfl (by kernel_rfl) Tryd.func3 (by kernel_rfl)
    (of_decide_eq_true (by kernel_rfl)) (by unfold Func.isWrapper; first | (rw [if_pos (by decide +kernel)]; kernel_rfl) | (rw [if_neg (by decide +kernel)]; exact ⟨rfl, rfl⟩))
    (fun os started H enc _ => rhyneSecretsLifted os started H enc)
end Go.Proofs.YtdkjdioccpoacaaDoor
set_option linter.unusedSimpArgs false
set_option linter.unusedVariables false
set_option maxRecDepth 100000
set_option maxHeartbeats 4000000
namespace Go.Proofs.YtdkjdioccpoacaaDoor
open Go
open List (getD_cons_zero getD_cons_succ set_cons_zero set_cons_succ)
theorem rhyneSecretsCard_holds : Rows.RhyneSecretsCardSaid :=
  Claim7.holds_tied_plain_at .later [] [.data, .data, .data, .data] true (true, "9092e56ae9e184c7d196a3731827767671eb38dfd008fdf2f1584c1d2b08caaf") false
    rhyneSecrets_row (fun _ h => by cases h) (by kernel_rfl) (fun _ h => by cases h) rhyneSecrets_row_tie rfl ⟨rfl, rfl⟩ (by kernel_rfl) rfl
    (fun f fn hf hfn => by
      obtain rfl : f = 3 := Option.some.inj ((show Tryd.prog.funcNamed "rhyne/rhynetop.RhyneSecrets" = some 3 by kernel_rfl).symm.trans hf) |>.symm
      obtain rfl : fn = Tryd.f3 := (Option.some.inj (Tryd.func3.symm.trans hfn)).symm
      exact ⟨by kernel_rfl, fun j t ht => by
        rw [Tryd.params3] at ht
        match j, ht with
        | 0, ht => cases ht; exact (show Tryd.prog.wantsStandIn 22 = false by kernel_rfl)
        | 1, ht => cases ht; exact (show Tryd.prog.wantsStandIn 22 = false by kernel_rfl)
        | 2, ht => cases ht; exact (show Tryd.prog.wantsStandIn 9 = false by kernel_rfl)
        | j + 3, ht => simp at ht⟩)
    (by kernel_rfl)
end Go.Proofs.YtdkjdioccpoacaaDoor
#print axioms Go.Proofs.YtdkjdioccpoacaaDoor.rhyneSecretsCard_holds
