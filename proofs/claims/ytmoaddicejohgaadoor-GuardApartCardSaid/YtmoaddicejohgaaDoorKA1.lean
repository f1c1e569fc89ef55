/- Packed: Aes1, AesP, Aes7, AesK, Sha1, Sha2, Conv, Hkdf, Gcm0, Gcm1, Field, GcmS, GcmL, Guard2, Bits, Guard3, Guard, as far as guardApartCard_holds needs them. No conditions but those that stand in the statements. -/
import Derived.Test.YtmoaddicejohgaaDoorKA0
import Derived.Lib.ConvBytes
import Derived.KernelRfl
set_option linter.unusedSimpArgs false
set_option linter.unusedVariables false
set_option maxRecDepth 100000
set_option maxHeartbeats 4000000
namespace Go.Proofs.YtmoaddicejohgaaDoor
open Go
open List (getD_cons_zero getD_cons_succ set_cons_zero set_cons_succ)
def conN : Nat → UInt8
  | 0 => 1
  | n + 1 => dbl (conN n)
def kexp (key : Nat → UInt8) (n : Nat) : UInt8 :=
  if n < 16 then key n
  else if n % 16 < 4 then kexp key (n - 16) ^^^ (sbox (kexp key (n - n % 16 - 4 + (n % 16 + 1) % 4)).toNat ^^^ (if n % 16 = 0 then conN (n / 16 - 1) else 0))
  else kexp key (n - 16) ^^^ kexp key (n - 4)
termination_by n
decreasing_by all_goals omega
theorem kexp_lo (key : Nat → UInt8) {n : Nat} (h : n < 16) : kexp key n = key n := by rw [kexp, if_pos h]
theorem kexp_a (key : Nat → UInt8) {n : Nat} (h : 16 ≤ n) (h1 : n % 16 < 4) : kexp key n = kexp key (n - 16) ^^^ (sbox (kexp key (n - n % 16 - 4 + (n % 16 + 1) % 4)).toNat ^^^ (if n % 16 = 0 then conN (n / 16 - 1) else 0)) := by
  rw [kexp, if_neg (by omega), if_pos h1]
theorem kexp_b (key : Nat → UInt8) {n : Nat} (h : 16 ≤ n) (h1 : ¬ n % 16 < 4) : kexp key n = kexp key (n - 16) ^^^ kexp key (n - 4) := by
  rw [kexp, if_neg (by omega), if_neg h1]
theorem upd_cut {g : Nat → UInt8} {m m' m'' : Nat} {v : UInt8} (h1 : m' = m) (h2 : m'' = m + 1) (hv : v = g m) (i : Nat) :
    upd (fun n => if n < m then g n else 0) m' v i = if i < m'' then g i else 0 := by
  subst h1 h2 hv
  simp only [upd]
  by_cases h : i = m'
  · subst h; rw [if_pos rfl, if_pos (by omega)]
  · rw [if_neg h]
    by_cases h1 : i < m'
    · rw [if_pos h1, if_pos (by omega)]
    · rw [if_neg h1, if_neg (by omega)]
theorem kstep_a (g : Nat → UInt8) (k j : Nat) (hj : j < 4) (h0 : ¬ j = 0) :
    ((if (k + 1 - 1) * 16 + j < 16 * (k + 1) + j then kexp g ((k + 1 - 1) * 16 + j) else 0) ^^^
      sbox (if (k + 1 - 1) * 16 + (12 + (j + 1) % 4) < 16 * (k + 1) + j then kexp g ((k + 1 - 1) * 16 + (12 + (j + 1) % 4)) else 0).toNat) = kexp g (16 * (k + 1) + j) := by
  rw [if_pos (by omega), if_pos (by omega), kexp_a (n := 16 * (k + 1) + j) _ (by omega) (by omega), if_neg (by omega), UInt8.xor_zero]
  rw [show 16 * (k + 1) + j - 16 = (k + 1 - 1) * 16 + j by omega, show 16 * (k + 1) + j - (16 * (k + 1) + j) % 16 - 4 + ((16 * (k + 1) + j) % 16 + 1) % 4 = (k + 1 - 1) * 16 + (12 + (j + 1) % 4) by omega]
theorem kstep_0 (g : Nat → UInt8) (k j : Nat) (h0 : j = 0) :
    ((if (k + 1 - 1) * 16 + j < 16 * (k + 1) + j then kexp g ((k + 1 - 1) * 16 + j) else 0) ^^^
      (sbox (if (k + 1 - 1) * 16 + (12 + (j + 1) % 4) < 16 * (k + 1) + j then kexp g ((k + 1 - 1) * 16 + (12 + (j + 1) % 4)) else 0).toNat ^^^ conN k)) = kexp g (16 * (k + 1) + j) := by
  subst h0
  rw [if_pos (by omega), if_pos (by omega), kexp_a (n := 16 * (k + 1) + 0) _ (by omega) (by omega), if_pos (by omega)]
  rw [show 16 * (k + 1) + 0 - 16 = (k + 1 - 1) * 16 + 0 by omega, show 16 * (k + 1) + 0 - (16 * (k + 1) + 0) % 16 - 4 + ((16 * (k + 1) + 0) % 16 + 1) % 4 = (k + 1 - 1) * 16 + (12 + (0 + 1) % 4) by omega, show (16 * (k + 1) + 0) / 16 - 1 = k by omega]
theorem kstep_b (g : Nat → UInt8) (k j : Nat) (hj : 4 ≤ j) (hj' : j < 16) :
    ((if (k + 1 - 1) * 16 + j < 16 * (k + 1) + j then kexp g ((k + 1 - 1) * 16 + j) else 0) ^^^
      if (k + 1) * 16 + (j - 4) < 16 * (k + 1) + j then kexp g ((k + 1) * 16 + (j - 4)) else 0) = kexp g (16 * (k + 1) + j) := by
  rw [if_pos (by omega), if_pos (by omega), kexp_b (n := 16 * (k + 1) + j) _ (by omega) (by omega)]
  rw [show 16 * (k + 1) + j - 16 = (k + 1 - 1) * 16 + j by omega, show 16 * (k + 1) + j - 4 = (k + 1) * 16 + (j - 4) by omega]
theorem new_calls (key : Value) (l : List UInt8) (w : World) (hk : Sl w key l) (hl : l.length = 16) :
    Ret Tryd.prog 42 #[key] w fun v w' => ∃ b, v = .tuple #[PT b 0, I64 (0 : Nat)] ∧ Chg [] w w' ∧ w.heap.size ≤ b ∧ Blk w' b 109 (arr8 176 (kexp fun i => l.getD i 0)) := by
 refine Ret.enter Tryd.func42 rfl ?_
 simp only [Tryd.ntmps42, fe, Nat.reduceAdd, Nat.reduceSub]
 have hH := Hp.start [] w
 refine wp_seq_k ?_
 intro K1 hK1
 refine wrt [.p 0, .p 1] ?_
 refine pa (pka 0 ?_);simp only [nf]
 refine plan_nil hH ?_
 clear hH
 intro w2 hH
 refine hK1 _ _ ?_
 (try clear hK1 K1)
 refine wp_seq_k ?_
 intro K3 hK3
 refine wp_seq_k ?_
 intro K4 hK4
 refine wrt [.p 0, .p 1, .p 2] ?_
 refine pm ?_;simp only [nf]
 refine pp rfl rfl (pr_len_Sl (hk.chg hH.chg) rfl Tryd.underlying22) ?_;simp only [nf]
 refine pp rfl rfl (pr_bin rfl rfl (by first | exact bin_neq_n (n := 16)  | exact bin_neq_i)) ?_;simp only [nf]
 refine plan_nil hH ?_
 clear hH
 intro w5 hH
 refine hK4 _ _ ?_
 (try clear hK4 K4)
 refine wp_cond_false (by show BV _ = _; rw [hl]; rfl) ?_
 refine wp_skip ?_
 refine hK3 _ _ ?_
 (try clear hK3 K3)
 refine wp_seq_k ?_
 intro K6 hK6
 refine wrt [.p 0, .x 1, .p 2] ?_
 refine plan_p (v := .agg (arr8 176 fun _ => 0)) rfl rfl (fun w => by kernel_rfl) ?_
 (try simp only [nf])
 refine plan_box rfl rfl hH rfl ?_
 clear hH
 intro b7 w8 hH
 (try simp only [nf, nh, Value.cells] at hH ⊢)
 refine pa ?_;simp only [nf]
 refine plan_nil hH ?_
 clear hH
 intro w9 hH
 refine hK6 _ _ ?_
 (try clear hK6 K6)
 refine wp_seq_k ?_
 intro K10 hK10
 refine wrt [.p 0, .p 1, .p 2, .p 3, .p 4, .p 5, .e 6] ?_
 refine pm ?_;simp only [nf]
 refine pp rfl rfl (pr_nilCheck rfl) ?_;simp only [nf]
 refine pp rfl rfl (pr_fieldAddr 0 rfl Tryd.underlying109 rfl rfl sz107) ?_;simp only [nf]
 refine pp rfl rfl (pr_idxA (i := 0) rfl rfl Tryd.underlying107 sz87 (by omega)) ?_;simp only [nf]
 refine pp rfl rfl (pr_slice_arr_all rfl Tryd.underlying87 sz5) ?_;simp only [nf]
 (try simp only [Nat.mul_one, Nat.zero_add, Nat.add_sub_cancel_left])
 refine pm ?_;simp only [nf]
 refine plan_copy 0 rfl rfl hH rfl (fun w' hH => ((hk.chg hH.chg)).csrc) rfl rfl Tryd.underlying22 sz5 (by omega) ?_
 clear hH
 intro w11 hH
 (try simp only [nf, nh, Value.cells] at hH ⊢)
 refine plan_nil hH ?_
 clear hH
 intro w12 hH
 refine hK10 _ _ ?_
 (try clear hK10 K10)
 refine wp_seq_k ?_
 intro K13 hK13
 refine wrt [.p 0] ?_
 refine pa ?_;simp only [nf]
 refine plan_nil hH ?_
 clear hH
 intro w14 hH
 refine hK13 _ _ ?_
 (try clear hK13 K13)
 refine wp_seq_k ?_
 intro K15 hK15
 refine wp_seq_k ?_
 intro K16 hK16
 refine wrt [.p 0] ?_
 refine pka 1 ?_;simp only [nf]
 refine plan_nil hH ?_
 clear hH
 intro w17 hH
 refine hK16 _ _ ?_
 (try clear hK16 K16)
 refine wp_block ?_
 refine wp_loopT [5, 6] [7, 8, 9, 10, 23, 24, 25, 26, 27, 28, 29, 30, 31, 32, 33, 34, 35, 36, 37, 38, 39, 40, 41, 42, 43, 44, 45, 46, 47, 48, 49, 50, 51, 52, 53, 54, 55, 56, 57, 58, 59, 60, 61, 62, 63, 64, 65, 66, 67, 68, 69, 70, 71, 72, 73, 74, 75, 76, 77] (fun (n18 : Nat) (vs : List Value) (w' : World) => ∃ (k : Nat), vs = [V8 (conN k), I64 ((k + 1 : Nat))] ∧ Hp [] w w' [(some b7, 109, arr8 176 fun n => if n < 16 * (k + 1) then kexp (fun i => l.getD i 0) n else 0)] ∧ n18 = 10 - k ∧ k ≤ 10) (10 - 0) (by kernel_rfl) ?_ ?_
 ·
  simp only [ga]
  refine ⟨0, rfl, ?_, rfl, ?_⟩
  ·
   refine hH.say 0 rfl (arr8_congr fun i hi => ?_)
   by_cases h : i < 16
   · rw [if_pos (by omega), if_pos (by omega), kexp_lo _ h]; rfl
   · rw [if_neg (by omega), if_neg (by omega)]
  · first | omega | (omega)
 clear hH
 intro n18 vs19 w20 hR21 d0
 obtain ⟨k, rfl, hH, hn22, hf23⟩ := hR21
 simp only [putAll, putD, List.set_cons_zero, List.set_cons_succ, Nat.zero_add, Nat.reduceAdd]
 refine wp_seq_k ?_
 intro K24 hK24
 refine wp_seq_k ?_
 intro K25 hK25
 refine wrt [.p 0, .p 1] ?_
 refine pm ?_;simp only [nf]
 refine pp rfl rfl (pr_bin rfl rfl (by first | exact bin_leq_n (n := 10)  | exact bin_leq_i)) ?_;simp only [nf]
 refine plan_nil hH ?_
 clear hH
 intro w26 hH
 refine hK25 _ _ ?_
 (try clear hK25 K25)
 refine wp_cond_split rfl (fun hc27 => ?_) (fun hc27 => ?_)
 ·
  (try simp only [cnd] at hc27)
  refine wp_skip ?_
  refine hK24 _ _ ?_
  (try clear hK24 K24)
  refine wp_seq_k ?_
  intro K28 hK28
  refine wp_block ?_
  refine wp_seq_k ?_
  intro K29 hK29
  refine wrp [.p 0, .p 1, .p 2, .p 3, .p 4, .p 5, .p 6, .p 7, .p 8, .p 9, .p 10, .p 11, .p 12] ?_
  refine pm (pm ?_);simp only [nf]
  refine pp rfl rfl (pr_bin rfl rfl (by first | exact bin_sub_n (n := 1) (by omega) (by omega) | exact bin_sub_i (by omega) (by omega))) ?_;simp only [nf]
  refine pp rfl rfl (pr_nilCheck rfl) ?_;simp only [nf]
  refine pp rfl rfl (pr_fieldAddr 0 rfl Tryd.underlying109 rfl rfl sz107) ?_;simp only [nf]
  refine pp rfl rfl (pr_idxA rfl rfl Tryd.underlying107 sz87 (by omega)) ?_;simp only [nf]
  refine pm (pm ?_);simp only [nf]
  refine pp rfl rfl (pr_nilCheck rfl) ?_;simp only [nf]
  refine pp rfl rfl (pr_fieldAddr 0 rfl Tryd.underlying109 rfl rfl sz107) ?_;simp only [nf]
  refine pp rfl rfl (pr_idxA rfl rfl Tryd.underlying107 sz87 (by omega)) ?_;simp only [nf]
  refine pa (pa ?_);simp only [nf]
  refine plan_nil hH ?_
  clear hH
  intro w30 hH
  refine hK29 _ _ ?_
  (try clear hK29 K29)
  refine wp_seq_k ?_
  intro K31 hK31
  refine wp_seq_k ?_
  intro K32 hK32
  refine wrt [.p 0] ?_
  refine pk 0 ?_;simp only [nf]
  refine plan_nil hH ?_
  clear hH
  intro w33 hH
  refine hK32 _ _ ?_
  (try clear hK32 K32)
  refine wp_block ?_
  refine wp_loopT [38] [9, 10, 39, 40, 41, 42, 43, 44, 45, 46, 47, 48, 49, 50, 51, 52, 53, 54, 55, 56, 57, 58, 59, 60, 61, 62, 63, 64, 65, 66, 67, 68, 69, 70, 71, 72, 73, 74, 75] (fun (n34 : Nat) (vs : List Value) (w' : World) => ∃ (j : Nat), vs = [I64 (j : Nat)] ∧ Hp [] w w' [(some b7, 109, arr8 176 fun n => if n < 16 * (k + 1) + j then kexp (fun i => l.getD i 0) n else 0)] ∧ n34 = 16 - j ∧ j ≤ 16) (16 - 0) (by kernel_rfl) ?_ ?_
  ·
   simp only [ga]
   refine ⟨0, rfl, ?_, rfl, ?_⟩
   ·
    exact hH
   · first | omega | (omega)
  clear hH
  intro n34 vs35 w36 hR37 d1
  obtain ⟨j, rfl, hH, hn38, hf39⟩ := hR37
  simp only [putAll, putD, List.set_cons_zero, List.set_cons_succ, Nat.zero_add, Nat.reduceAdd]
  refine wp_seq_k ?_
  intro K40 hK40
  refine wrt [.p 0] ?_
  refine pp rfl rfl (pr_bin rfl rfl (by first | exact bin_lss_n (n := 16)  | exact bin_lss_i)) ?_;simp only [nf]
  refine plan_nil hH ?_
  clear hH
  intro w41 hH
  refine hK40 _ _ ?_
  (try clear hK40 K40)
  refine wp_seq_k ?_
  intro K42 hK42
  refine wp_cond_split rfl (fun hc43 => ?_) (fun hc43 => ?_)
  ·
   (try simp only [cnd] at hc43)
   refine wp_skip ?_
   refine hK42 _ _ ?_
   (try clear hK42 K42)
   refine wp_seq_k ?_
   intro K44 hK44
   refine wp_block ?_
   refine wp_seq_k ?_
   intro K45 hK45
   refine wrt [.p 0, .p 1] ?_
   refine pm (pa ?_);simp only [nf]
   refine plan_nil hH ?_
   clear hH
   intro w46 hH
   refine hK45 _ _ ?_
   (try clear hK45 K45)
   refine wp_seq_k ?_
   intro K47 hK47
   refine wrt [.p 0] ?_
   refine pa ?_;simp only [nf]
   refine plan_nil hH ?_
   clear hH
   intro w48 hH
   refine hK47 _ _ ?_
   (try clear hK47 K47)
   refine wp_seq_k ?_
   intro K49 hK49
   refine wp_seq_k ?_
   intro K50 hK50
   refine wrt [.p 0, .p 1] ?_
   refine pm ?_;simp only [nf]
   refine pp rfl rfl (pr_bin rfl rfl (by first | exact bin_lss_n (n := 4)  | exact bin_lss_i)) ?_;simp only [nf]
   refine plan_nil hH ?_
   clear hH
   intro w51 hH
   refine hK50 _ _ ?_
   (try clear hK50 K50)
   refine wp_cond_split rfl (fun hc52 => ?_) (fun hc52 => ?_)
   ·
    (try simp only [cnd] at hc52)
    refine wp_seq_k ?_
    intro K53 hK53
    refine wrp [.p 1, .p 2, .p 3, .p 4, .p 5, .p 6, .p 7, .q 0, .q 8, .p 9, .p 10] ?_
    refine pm (pm ?_);simp only [nf]
    refine pp rfl rfl (pr_bin rfl rfl (by first | exact bin_add_n (n := 1) (by omega) | exact bin_add_i (by omega) (by omega))) ?_;simp only [nf]
    refine pp rfl rfl (pr_bin rfl rfl (by first | exact bin_rem_n (n := 4) (by omega))) ?_;simp only [nf]
    refine pp rfl rfl (pr_bin rfl rfl (by first | exact bin_add_n (m := 12) (by omega) | exact bin_add_i (by omega) (by omega))) ?_;simp only [nf]
    refine pp rfl rfl (pr_nilCheck rfl) ?_;simp only [nf]
    refine pp rfl rfl (pr_idxA1 rfl rfl Tryd.underlying87 sz5 (by omega)) ?_;simp only [nf]
    refine pq rfl rfl (qr_call cf60 (fun w' hw => sub_calls w') rfl) ?_;simp only [nf]
    refine pq rfl rfl (qr_load1 rfl Tryd.underlying5 rfl ((hH.blk 0 rfl).cell (arr8_get (by omega)))) ?_;simp only [nf]
    refine pp rfl rfl (pr_index_arr rfl rfl Tryd.underlying99 sz5 (notAgg Tryd.underlying5 rfl) (by first | omega | exact lt_u8 _) (arr8_get (by first | omega | exact lt_u8 _))) ?_;simp only [nf]
    refine pa ?_;simp only [nf]
    refine plan_nil hH ?_
    clear hH
    intro w54 hH
    refine hK53 _ _ ?_
    (try clear hK53 K53)
    refine wp_seq_k ?_
    intro K55 hK55
    refine wrt [.p 0, .p 1] ?_
    refine pm ?_;simp only [nf]
    refine pp rfl rfl (pr_bin rfl rfl (by first | exact bin_eql_n (n := 0)  | exact bin_eql_i)) ?_;simp only [nf]
    refine plan_nil hH ?_
    clear hH
    intro w56 hH
    refine hK55 _ _ ?_
    (try clear hK55 K55)
    refine wp_cond_split rfl (fun hc57 => ?_) (fun hc57 => ?_)
    ·
     (try simp only [cnd] at hc57)
     refine wrt [.p 0, .p 1, .p 2, .p 3] ?_
     refine pm (pm ?_);simp only [nf]
     refine pp rfl rfl (pr_bin rfl rfl (bin_xor_u8 _ _)) ?_;simp only [nf]
     refine pa ?_;simp only [nf]
     refine plan_nil hH ?_
     clear hH
     intro w58 hH
     refine hK49 _ _ ?_
     (try clear hK49 K49)
     refine wrp [.p 0, .p 1, .p 2, .p 3, .p 4, .p 5, .p 7, .p 9, .q 6, .p 8, .p 10, .e 11] ?_
     refine pm (pm (pm (pm ?_)));simp only [nf]
     refine pp rfl rfl (pr_nilCheck rfl) ?_;simp only [nf]
     refine pp rfl rfl (pr_idxA1 rfl rfl Tryd.underlying87 sz5 (by omega)) ?_;simp only [nf]
     refine pm ?_;simp only [nf]
     refine pp rfl rfl (pr_nilCheck rfl) ?_;simp only [nf]
     refine pq rfl rfl (qr_load1 rfl Tryd.underlying5 rfl ((hH.blk 0 rfl).cell (arr8_get (by omega)))) ?_;simp only [nf]
     refine pp rfl rfl (pr_bin rfl rfl (bin_xor_u8 _ _)) ?_;simp only [nf]
     refine pp rfl rfl (pr_idxA1 rfl rfl Tryd.underlying87 sz5 (by omega)) ?_;simp only [nf]
     refine plan_store1 0 rfl rfl hH rfl rfl rfl rfl sz5 (by simp <;> omega) ?_
     clear hH
     intro w59 hH
     (try simp only [nf, nh, Value.cells] at hH ⊢)
     refine plan_nil hH ?_
     clear hH
     intro w60 hH
     refine hK44 _ _ ?_
     (try clear hK44 K44)
     refine wrt [.p 0, .p 1] ?_
     refine pp rfl rfl (pr_bin rfl rfl (by first | exact bin_add_n (n := 1) (by omega) | exact bin_add_i (by omega) (by omega))) ?_;simp only [nf]
     refine pm ?_;simp only [nf]
     refine plan_nil hH ?_
     clear hH
     intro w61 hH
     (try simp only [Exit.then, Exit.inBlock, ↓reduceIte, Nat.reduceEqDiff])
     refine ⟨16 - (j + 1), ?_, _, rfl, by kernel_rfl, ?_⟩
     · first | omega | (omega)
     simp only [ga]
     refine ⟨j + 1, rfl, ?_, rfl, ?_⟩
     ·
      exact hH.say 0 rfl (arr8_congr fun i hi => upd_cut (by omega) (by omega) (kstep_0 _ _ _ (by omega)) i)
     · first | omega | (omega)
    ·
     (try simp only [cnd] at hc57)
     refine wp_skip ?_
     refine hK49 _ _ ?_
     (try clear hK49 K49)
     refine wrp [.p 0, .p 1, .p 2, .p 3, .p 4, .p 5, .p 7, .p 9, .q 6, .p 8, .p 10, .e 11] ?_
     refine pm (pm (pm (pm ?_)));simp only [nf]
     refine pp rfl rfl (pr_nilCheck rfl) ?_;simp only [nf]
     refine pp rfl rfl (pr_idxA1 rfl rfl Tryd.underlying87 sz5 (by omega)) ?_;simp only [nf]
     refine pm ?_;simp only [nf]
     refine pp rfl rfl (pr_nilCheck rfl) ?_;simp only [nf]
     refine pq rfl rfl (qr_load1 rfl Tryd.underlying5 rfl ((hH.blk 0 rfl).cell (arr8_get (by omega)))) ?_;simp only [nf]
     refine pp rfl rfl (pr_bin rfl rfl (bin_xor_u8 _ _)) ?_;simp only [nf]
     refine pp rfl rfl (pr_idxA1 rfl rfl Tryd.underlying87 sz5 (by omega)) ?_;simp only [nf]
     refine plan_store1 0 rfl rfl hH rfl rfl rfl rfl sz5 (by simp <;> omega) ?_
     clear hH
     intro w62 hH
     (try simp only [nf, nh, Value.cells] at hH ⊢)
     refine plan_nil hH ?_
     clear hH
     intro w63 hH
     refine hK44 _ _ ?_
     (try clear hK44 K44)
     refine wrt [.p 0, .p 1] ?_
     refine pp rfl rfl (pr_bin rfl rfl (by first | exact bin_add_n (n := 1) (by omega) | exact bin_add_i (by omega) (by omega))) ?_;simp only [nf]
     refine pm ?_;simp only [nf]
     refine plan_nil hH ?_
     clear hH
     intro w64 hH
     (try simp only [Exit.then, Exit.inBlock, ↓reduceIte, Nat.reduceEqDiff])
     refine ⟨16 - (j + 1), ?_, _, rfl, by kernel_rfl, ?_⟩
     · first | omega | (omega)
     simp only [ga]
     refine ⟨j + 1, rfl, ?_, rfl, ?_⟩
     ·
      exact hH.say 0 rfl (arr8_congr fun i hi => upd_cut (by omega) (by omega) (kstep_a _ _ _ (by omega) (by omega)) i)
     · first | omega | (omega)
   ·
    (try simp only [cnd] at hc52)
    refine wrt [.p 0, .p 1, .p 2, .p 3, .p 4, .q 5, .p 6] ?_
    refine pm (pm ?_);simp only [nf]
    refine pp rfl rfl (pr_bin rfl rfl (by first | exact bin_sub_n (n := 4) (by omega) (by omega) | exact bin_sub_i (by omega) (by omega))) ?_;simp only [nf]
    refine pp rfl rfl (pr_nilCheck rfl) ?_;simp only [nf]
    refine pp rfl rfl (pr_idxA1 rfl rfl Tryd.underlying87 sz5 (by omega)) ?_;simp only [nf]
    refine pq rfl rfl (qr_load1 rfl Tryd.underlying5 rfl ((hH.blk 0 rfl).cell (arr8_get (by omega)))) ?_;simp only [nf]
    refine pa ?_;simp only [nf]
    refine plan_nil hH ?_
    clear hH
    intro w65 hH
    refine hK49 _ _ ?_
    (try clear hK49 K49)
    refine wrp [.p 0, .p 1, .p 2, .p 3, .p 4, .p 5, .p 7, .p 9, .q 6, .p 8, .p 10, .e 11] ?_
    refine pm (pm (pm (pm ?_)));simp only [nf]
    refine pp rfl rfl (pr_nilCheck rfl) ?_;simp only [nf]
    refine pp rfl rfl (pr_idxA1 rfl rfl Tryd.underlying87 sz5 (by omega)) ?_;simp only [nf]
    refine pm ?_;simp only [nf]
    refine pp rfl rfl (pr_nilCheck rfl) ?_;simp only [nf]
    refine pq rfl rfl (qr_load1 rfl Tryd.underlying5 rfl ((hH.blk 0 rfl).cell (arr8_get (by omega)))) ?_;simp only [nf]
    refine pp rfl rfl (pr_bin rfl rfl (bin_xor_u8 _ _)) ?_;simp only [nf]
    refine pp rfl rfl (pr_idxA1 rfl rfl Tryd.underlying87 sz5 (by omega)) ?_;simp only [nf]
    refine plan_store1 0 rfl rfl hH rfl rfl rfl rfl sz5 (by simp <;> omega) ?_
    clear hH
    intro w66 hH
    (try simp only [nf, nh, Value.cells] at hH ⊢)
    refine plan_nil hH ?_
    clear hH
    intro w67 hH
    refine hK44 _ _ ?_
    (try clear hK44 K44)
    refine wrt [.p 0, .p 1] ?_
    refine pp rfl rfl (pr_bin rfl rfl (by first | exact bin_add_n (n := 1) (by omega) | exact bin_add_i (by omega) (by omega))) ?_;simp only [nf]
    refine pm ?_;simp only [nf]
    refine plan_nil hH ?_
    clear hH
    intro w68 hH
    (try simp only [Exit.then, Exit.inBlock, ↓reduceIte, Nat.reduceEqDiff])
    refine ⟨16 - (j + 1), ?_, _, rfl, by kernel_rfl, ?_⟩
    · first | omega | (omega)
    simp only [ga]
    refine ⟨j + 1, rfl, ?_, rfl, ?_⟩
    ·
     exact hH.say 0 rfl (arr8_congr fun i hi => upd_cut (by omega) (by omega) (kstep_b _ _ _ (by omega) (by omega)) i)
    · first | omega | (omega)
  ·
   (try simp only [cnd] at hc43)
   refine wp_exit ?_
   (try simp only [Exit.then, Exit.inBlock, ↓reduceIte, Nat.reduceEqDiff])
   refine hK31 _ _ ?_
   (try clear hK31 K31)
   refine wrt [.p 0, .q 1, .p 2] ?_
   refine pm ?_;simp only [nf]
   refine pq rfl rfl (qr_call cf61 (fun w' hw => double_calls _ w') rfl) ?_;simp only [nf]
   refine pa ?_;simp only [nf]
   refine plan_nil hH ?_
   clear hH
   intro w69 hH
   refine hK28 _ _ ?_
   (try clear hK28 K28)
   refine wrt [.p 0, .p 1, .p 2] ?_
   refine pm ?_;simp only [nf]
   refine pp rfl rfl (pr_bin rfl rfl (by first | exact bin_add_n (n := 1) (by omega) | exact bin_add_i (by omega) (by omega))) ?_;simp only [nf]
   refine pa ?_;simp only [nf]
   refine plan_nil hH ?_
   clear hH
   intro w70 hH
   (try simp only [Exit.then, Exit.inBlock, ↓reduceIte, Nat.reduceEqDiff])
   refine ⟨10 - (k + 1), ?_, _, rfl, by kernel_rfl, ?_⟩
   · first | omega | (omega)
   simp only [ga]
   refine ⟨k + 1, rfl, ?_, rfl, ?_⟩
   ·
    obtain rfl : j = 16 := by omega
    exact hH
   · first | omega | (omega)
 ·
  (try simp only [cnd] at hc27)
  refine wp_exit ?_
  (try simp only [Exit.then, Exit.inBlock, ↓reduceIte, Nat.reduceEqDiff])
  refine hK15 _ _ ?_
  (try clear hK15 K15)
  refine wp_seq_k ?_
  intro K71 hK71
  refine wrt [.p 0, .p 1, .p 2] ?_
  refine pm (pa (pka 0 ?_));simp only [nf]
  refine plan_nil hH ?_
  clear hH
  intro w72 hH
  refine hK71 _ _ ?_
  (try clear hK71 K71)
  refine wp_ret ?_
  (try simp only [Exit.then, Exit.inBlock, ↓reduceIte, Nat.reduceEqDiff])
  refine BP.ret2 rfl rfl rfl ?_
  obtain rfl : k = 10 := by omega
  refine ⟨b7, rfl, hH.chg, (hH.mine 0 rfl).resolve_right (by simp), (hH.say 0 rfl (arr8_congr fun i hi => ?_)).blk 0 rfl⟩
  exact if_pos (by omega)
theorem block_calls (bc : Nat) (kf : Nat → UInt8) (b : Value) (l : List UInt8) (w : World) (hc : Blk w bc 109 (arr8 176 kf)) (hb : Sl w b l) (hl : l.length = 16) :
    Ret Tryd.prog 43 #[PT bc 0, b] w fun v w' => ∃ nb, v = .tuple #[.slice (some ⟨nb, 0, none⟩) 16 16, I64 (0 : Nat)] ∧ Chg [] w w' ∧ w.heap.size ≤ nb ∧ Blk w' nb 87 (arr8 16 (aesR kf (fun i => l.getD i 0) 10)) := by
 refine Ret.enter Tryd.func43 rfl ?_
 simp only [Tryd.ntmps43, fe, Nat.reduceAdd, Nat.reduceSub]
 have hH := Hp.start [] w
 refine wp_seq_k ?_
 intro K1 hK1
 refine wrt [.p 0, .p 1] ?_
 refine pa (pka 0 ?_);simp only [nf]
 refine plan_nil hH ?_
 clear hH
 intro w2 hH
 refine hK1 _ _ ?_
 (try clear hK1 K1)
 refine wp_seq_k ?_
 intro K3 hK3
 refine wp_seq_k ?_
 intro K4 hK4
 refine wrt [.p 0, .p 1, .p 2, .p 3, .p 4, .p 5, .p 6] ?_
 refine pm ?_;simp only [nf]
 refine pp rfl rfl (pr_bin rfl rfl (bin_eql_pn Tryd.underlying80)) ?_;simp only [nf]
 refine plan_p (v := BV false) rfl rfl (pr_move_v rfl) ?_
 (try simp only [nf])
 refine pp rfl rfl pr_move ?_;simp only [nf]
 refine pp rfl rfl (pr_len_Sl (hb.chg hH.chg) rfl Tryd.underlying22) ?_;simp only [nf]
 refine pp rfl rfl (pr_bin rfl rfl (by first | exact bin_neq_n (n := 16)  | exact bin_neq_i)) ?_;simp only [nf]
 refine pp rfl rfl (pr_pick_f rfl) ?_;simp only [nf]
 refine plan_nil hH ?_
 clear hH
 intro w5 hH
 refine hK4 _ _ ?_
 (try clear hK4 K4)
 refine wp_cond_false (by show BV _ = _; rw [hl]; rfl) ?_
 refine wp_skip ?_
 refine hK3 _ _ ?_
 (try clear hK3 K3)
 refine wp_seq_k ?_
 intro K6 hK6
 refine wrt [.p 0, .p 1, .p 2, .q 3, .q 4, .x 5, .e 6] ?_
 refine pm (pm ?_);simp only [nf]
 refine pp rfl rfl (pr_s2ap_Sl (hb.chg hH.chg) rfl Tryd.underlying87 (by decide) (by omega)) ?_;simp only [nf]
 refine pq rfl rfl (qr_load_Sl (hb.chg hH.chg) rfl Tryd.underlying87 rfl sz87 (by omega)) ?_;simp only [nf]
 refine pq rfl rfl (qr_call cf62 (fun w' hw => turn_calls _ _ _ w' (hw.nil_blk (hH.chg.nil_blk hc))) rfl) ?_;simp only [nf]
 refine plan_alloc rfl rfl hH zc87 ?_
 clear hH
 intro b7 w8 hH
 (try simp only [nf, nh, Value.cells] at hH ⊢)
 refine plan_storeW 0 rfl rfl hH rfl rfl rfl one_arr8 sz87 (by simp) (by simp) ?_
 clear hH
 intro w9 hH
 (try simp only [nf, nh, Value.cells] at hH ⊢)
 refine plan_nil hH ?_
 clear hH
 intro w10 hH
 refine hK6 _ _ ?_
 (try clear hK6 K6)
 refine wp_seq_k ?_
 intro K11 hK11
 refine wrt [.p 0, .p 1, .p 2] ?_
 refine pp rfl rfl (pr_slice_arr_all rfl Tryd.underlying87 sz5) ?_;simp only [nf]
 (try simp only [Nat.mul_one, Nat.zero_add, Nat.add_sub_cancel_left])
 refine pa (pka 0 ?_);simp only [nf]
 refine plan_nil hH ?_
 clear hH
 intro w12 hH
 refine hK11 _ _ ?_
 (try clear hK11 K11)
 refine wp_ret ?_
 (try simp only [Exit.then, Exit.inBlock, ↓reduceIte, Nat.reduceEqDiff])
 refine BP.ret2 rfl rfl rfl ?_
 exact ⟨_, rfl, hH.chg, (hH.mine 0 rfl).resolve_right (by simp), hH.blk 0 rfl⟩
end Go.Proofs.YtmoaddicejohgaaDoor
set_option linter.unusedSimpArgs false
set_option linter.unusedVariables false
set_option maxRecDepth 100000
set_option maxHeartbeats 4000000
namespace Go.Proofs.YtmoaddicejohgaaDoor
open Go
open List (getD_cons_zero getD_cons_succ set_cons_zero set_cons_succ)
theorem cut16 (f : Nat → UInt8) {i : Nat} (hi : i < 16) : ((List.range 16).map fun i => f i).getD i 0 = f i := by
  simp [List.getD, hi]
end Go.Proofs.YtmoaddicejohgaaDoor
set_option linter.unusedSimpArgs false
set_option linter.unusedVariables false
set_option maxRecDepth 100000
set_option maxHeartbeats 4000000
namespace Go.Proofs.YtmoaddicejohgaaDoor
open Go
open List (getD_cons_zero getD_cons_succ set_cons_zero set_cons_succ)
def be32 (c : Nat → UInt8) : UInt32 := (c 12).toUInt32 <<< 24 ||| (c 13).toUInt32 <<< 16 ||| (c 14).toUInt32 <<< 8 ||| (c 15).toUInt32
def ctrF (c : Nat → UInt8) (n : UInt32) (i : Nat) : UInt8 :=
  if i = 12 then (n >>> 24).toUInt8 else if i = 13 then (n >>> 16).toUInt8 else if i = 14 then (n >>> 8).toUInt8 else if i = 15 then n.toUInt8 else c i
def ksF (kf c : Nat → UInt8) (p : Nat) : UInt8 := aesR kf (ctrF c (be32 c + UInt32.ofNat (p / 16))) 10 (p % 16)
def strm (kf c : Nat → UInt8) (a : Nat) (l : List UInt8) (n : Nat) : List UInt8 := (List.range n).map fun i => l.getD i 0 ^^^ ksF kf c (a + i)
theorem strm_succ (kf c : Nat → UInt8) (a : Nat) (l : List UInt8) (n : Nat) : strm kf c a l (n + 1) = strm kf c a l n ++ [l.getD n 0 ^^^ ksF kf c (a + n)] := by
  unfold strm; rw [List.range_succ, List.map_append]; rfl
theorem ctr_set (c e : Nat → UInt8) (n : UInt32) (he : ∀ i, i < 12 → e i = c i) : arr8 16 (upd (upd (upd (upd e 12 (n >>> 24).toUInt8) 13 (n >>> 16).toUInt8) 14 (n >>> 8).toUInt8) 15 n.toUInt8) = arr8 16 (ctrF c n) := arr8_congr fun i hi => by
  have h : i < 12 ∨ i = 12 ∨ i = 13 ∨ i = 14 ∨ i = 15 := by omega
  rcases h with h | rfl | rfl | rfl | rfl
  · simp only [upd, ctrF]
    rw [if_neg (by omega), if_neg (by omega), if_neg (by omega), if_neg (by omega), if_neg (by omega), if_neg (by omega), if_neg (by omega), if_neg (by omega), he i h]
  all_goals rfl
theorem ctr_head (c : Nat → UInt8) (n : UInt32) : ∀ i, i < 12 → ctrF c n i = c i := fun i h => by
  unfold ctrF
  rw [if_neg (by omega), if_neg (by omega), if_neg (by omega), if_neg (by omega)]
theorem strm_step {kf c : Nat → UInt8} {a p m j K : Nat} {n : UInt32} {l : List UInt8} (h : p < l.length → m = (a + p) % 16 ∧ n = be32 c + UInt32.ofNat ((a + p) / 16)) (hK : K ≤ 16 - m) (hK' : K ≤ (l.drop p).length) (hj : j < ((l.drop p).take K).length) :
    strm kf c a l (p + j) ++ [((l.drop p).take K).getD j 0 ^^^ aesR kf (ctrF c n) 10 (m + j)] = strm kf c a l (p + (j + 1)) := by
  rw [← Nat.add_assoc, strm_succ]
  simp only [List.length_take, List.length_drop] at hj hK'
  obtain ⟨rfl, rfl⟩ := h (by omega)
  have e : ((l.drop p).take K).getD j 0 = l.getD (p + j) 0 := by
    simp only [List.getD, List.getElem?_take, List.getElem?_drop]
    rw [if_pos (by omega)]
  unfold ksF
  rw [e, show (a + (p + j)) / 16 = (a + p) / 16 by omega, show (a + (p + j)) % 16 = (a + p) % 16 + j by omega]
theorem strm_next {c : Nat → UInt8} {a p m K : Nat} {n : UInt32} {l : List UInt8} (h : p < l.length → m = (a + p) % 16 ∧ n = be32 c + UInt32.ofNat ((a + p) / 16)) (hK : K = min (16 - m) (l.drop p).length) (hm : m < 16) (h' : p + K < l.length) :
    0 = (a + (p + K)) % 16 ∧ n + 1 = be32 c + UInt32.ofNat ((a + (p + K)) / 16) := by
  rw [List.length_drop] at hK
  obtain ⟨rfl, rfl⟩ := h (by omega)
  refine ⟨by omega, ?_⟩
  rw [show (a + (p + K)) / 16 = (a + p) / 16 + 1 by omega, UInt32.add_assoc, UInt32.ofNat_add]; rfl
theorem stream_calls (bc : Nat) (kf cf : Nat → UInt8) (c : Value) (cl : List UInt8) (a : Nat) (b : Value) (l : List UInt8) (w : World) (hc : Blk w bc 109 (arr8 176 kf)) (hcl : Sl w c cl) (hl : cl.length = 16) (hcf : ∀ i, i < 16 → cl.getD i 0 = cf i) (hb : Sl w b l) (ha : a < 9223372036854775808) (hbl : l.length ≤ 140737488355328) :
    Ret Tryd.prog 45 #[PT bc 0, c, I64 (a : Nat), b] w fun v w' => ∃ o cap cs, v = .tuple #[own o l.length cap, I64 (0 : Nat)] ∧ Chg [] w w' ∧ OwnC o l.length cap 1 cs ((strm kf cf a l l.length).map V8) ∧ ∀ bo, o = some bo → w.heap.size ≤ bo ∧ Blk w' bo 5 cs := by
 refine Ret.enter Tryd.func45 rfl ?_
 simp only [Tryd.ntmps45, fe, Nat.reduceAdd, Nat.reduceSub]
 have hH := Hp.start [] w
 refine wp_seq_k ?_
 intro K1 hK1
 refine wrt [.p 0, .p 1] ?_
 refine pa (pka 0 ?_);simp only [nf]
 refine plan_nil hH ?_
 clear hH
 intro w2 hH
 refine hK1 _ _ ?_
 (try clear hK1 K1)
 refine wp_seq_k ?_
 intro K3 hK3
 refine wp_seq_k ?_
 intro K4 hK4
 refine wrt [.p 0, .p 1, .p 2, .p 3, .p 4, .p 5, .p 6, .p 7, .p 8, .p 9, .p 10] ?_
 refine pm ?_;simp only [nf]
 refine pp rfl rfl (pr_bin rfl rfl (bin_eql_pn Tryd.underlying80)) ?_;simp only [nf]
 refine plan_p (v := BV false) rfl rfl (pr_move_v rfl) ?_
 (try simp only [nf])
 refine pp rfl rfl pr_move ?_;simp only [nf]
 refine pp rfl rfl (pr_len_Sl (hcl.chg hH.chg) rfl Tryd.underlying22) ?_;simp only [nf]
 refine pp rfl rfl (pr_bin rfl rfl (by first | exact bin_neq_n (n := 16)  | exact bin_neq_i)) ?_;simp only [nf]
 refine pp rfl rfl (pr_pick_f rfl) ?_;simp only [nf]
 refine plan_p (v := BV false) rfl rfl (pr_move_v (by show BV _ = _; rw [hl]; rfl)) ?_
 (try simp only [nf])
 refine pp rfl rfl pr_move ?_;simp only [nf]
 refine pp rfl rfl (pr_bin rfl rfl (by first | exact bin_lss_n (n := 0)  | exact bin_lss_i)) ?_;simp only [nf]
 refine pp rfl rfl (pr_pick_f rfl) ?_;simp only [nf]
 refine plan_nil hH ?_
 clear hH
 intro w5 hH
 refine hK4 _ _ ?_
 (try clear hK4 K4)
 refine wp_cond_false (by show BV _ = _; exact congrArg BV (decide_eq_false (by omega))) ?_
 refine wp_skip ?_
 refine hK3 _ _ ?_
 (try clear hK3 K3)
 refine wp_seq_k ?_
 intro K6 hK6
 refine wrt [.p 0, .p 1, .q 2, .x 3, .e 4] ?_
 refine pm ?_;simp only [nf]
 refine pp rfl rfl (pr_s2ap_Sl (hcl.chg hH.chg) rfl Tryd.underlying87 (by decide) (by first | omega | (simp only [List.length_take, List.length_drop, List.length_cons, List.length_nil] at *; omega))) ?_;simp only [nf]
 refine pq rfl rfl (qr_load_Sl (hcl.chg hH.chg) rfl Tryd.underlying87 rfl sz87 (by first | omega | (simp only [List.length_take, List.length_drop, List.length_cons, List.length_nil] at *; omega))) ?_;simp only [nf]
 refine plan_alloc rfl rfl hH zc87 ?_
 clear hH
 intro b7 w8 hH
 (try simp only [nf, nh, Value.cells] at hH ⊢)
 refine plan_storeW 0 rfl rfl hH rfl rfl rfl one_arr8 sz87 (by simp) (by simp) ?_
 clear hH
 intro w9 hH
 (try simp only [nf, nh, Value.cells] at hH ⊢)
 refine plan_nil hH ?_
 clear hH
 intro w10 hH
 refine hK6 _ _ ?_
 (try clear hK6 K6)
 refine wp_seq_k ?_
 intro K11 hK11
 refine wrt [.p 0, .q 1, .p 2, .p 3, .p 4, .q 5, .p 6, .p 7, .p 8, .p 9, .q 10, .p 11, .p 12, .p 13, .p 14, .q 15, .p 16, .p 17, .p 18] ?_
 refine pp rfl rfl (pr_idxA1 (i := 12) rfl rfl Tryd.underlying87 sz5 (by first | omega | (simp only [List.length_take, List.length_drop, List.length_cons, List.length_nil] at *; omega))) ?_;simp only [nf]
 refine pq rfl rfl (qr_load1 rfl Tryd.underlying5 rfl ((hH.blk 0 rfl).cell (arr8_get (by first | omega | (simp only [List.length_take, List.length_drop, List.length_cons, List.length_nil] at *; omega))))) ?_;simp only [nf]
 refine pp rfl rfl (pr_conv rfl (cnv_u8_u32 _ Tryd.underlying5 Tryd.underlying113)) ?_;simp only [nf]
 refine pp rfl rfl (pr_bin rfl rfl (bin_shlc_u32 24 24 (by decide) rfl _)) ?_;simp only [nf]
 refine pp rfl rfl (pr_idxA1 (i := 13) rfl rfl Tryd.underlying87 sz5 (by first | omega | (simp only [List.length_take, List.length_drop, List.length_cons, List.length_nil] at *; omega))) ?_;simp only [nf]
 refine pq rfl rfl (qr_load1 rfl Tryd.underlying5 rfl ((hH.blk 0 rfl).cell (arr8_get (by first | omega | (simp only [List.length_take, List.length_drop, List.length_cons, List.length_nil] at *; omega))))) ?_;simp only [nf]
 refine pp rfl rfl (pr_conv rfl (cnv_u8_u32 _ Tryd.underlying5 Tryd.underlying113)) ?_;simp only [nf]
 refine pp rfl rfl (pr_bin rfl rfl (bin_shlc_u32 16 16 (by decide) rfl _)) ?_;simp only [nf]
 refine pp rfl rfl (pr_bin rfl rfl (bin_or_u32 _ _)) ?_;simp only [nf]
 refine pp rfl rfl (pr_idxA1 (i := 14) rfl rfl Tryd.underlying87 sz5 (by first | omega | (simp only [List.length_take, List.length_drop, List.length_cons, List.length_nil] at *; omega))) ?_;simp only [nf]
 refine pq rfl rfl (qr_load1 rfl Tryd.underlying5 rfl ((hH.blk 0 rfl).cell (arr8_get (by first | omega | (simp only [List.length_take, List.length_drop, List.length_cons, List.length_nil] at *; omega))))) ?_;simp only [nf]
 refine pp rfl rfl (pr_conv rfl (cnv_u8_u32 _ Tryd.underlying5 Tryd.underlying113)) ?_;simp only [nf]
 refine pp rfl rfl (pr_bin rfl rfl (bin_shlc_u32 8 8 (by decide) rfl _)) ?_;simp only [nf]
 refine pp rfl rfl (pr_bin rfl rfl (bin_or_u32 _ _)) ?_;simp only [nf]
 refine pp rfl rfl (pr_idxA1 (i := 15) rfl rfl Tryd.underlying87 sz5 (by first | omega | (simp only [List.length_take, List.length_drop, List.length_cons, List.length_nil] at *; omega))) ?_;simp only [nf]
 refine pq rfl rfl (qr_load1 rfl Tryd.underlying5 rfl ((hH.blk 0 rfl).cell (arr8_get (by first | omega | (simp only [List.length_take, List.length_drop, List.length_cons, List.length_nil] at *; omega))))) ?_;simp only [nf]
 refine pp rfl rfl (pr_conv rfl (cnv_u8_u32 _ Tryd.underlying5 Tryd.underlying113)) ?_;simp only [nf]
 refine pp rfl rfl (pr_bin rfl rfl (bin_or_u32 _ _)) ?_;simp only [nf]
 refine pa ?_;simp only [nf]
 refine plan_nil hH ?_
 clear hH
 intro w12 hH
 refine hK11 _ _ ?_
 (try clear hK11 K11)
 refine wp_seq_k ?_
 intro K13 hK13
 refine wrt [.p 0, .p 1, .p 2, .p 3, .p 4, .p 5] ?_
 refine pm (pm ?_);simp only [nf]
 refine pp rfl rfl (pr_bin rfl rfl (by first | exact bin_quo_n (n := 16) (by first | omega | (simp only [List.length_take, List.length_drop, List.length_cons, List.length_nil] at *; omega)) (by first | omega | (simp only [List.length_take, List.length_drop, List.length_cons, List.length_nil] at *; omega)))) ?_;simp only [nf]
 refine pp rfl rfl (pr_conv rfl (by first | exact cnv_n_u32 Tryd.underlying3 Tryd.underlying113 | exact cnv_i_u32 Tryd.underlying3 Tryd.underlying113)) ?_;simp only [nf]
 refine pp rfl rfl (pr_bin rfl rfl (bin_add_u32 _ _)) ?_;simp only [nf]
 refine pa ?_;simp only [nf]
 refine plan_nil hH ?_
 clear hH
 intro w14 hH
 refine hK13 _ _ ?_
 (try clear hK13 K13)
 refine wp_seq_k ?_
 intro K15 hK15
 refine wrt [.p 0, .p 1, .p 2] ?_
 refine pm ?_;simp only [nf]
 refine pp rfl rfl (pr_bin rfl rfl (by first | exact bin_rem_n (n := 16) (by first | omega | (simp only [List.length_take, List.length_drop, List.length_cons, List.length_nil] at *; omega)))) ?_;simp only [nf]
 refine pa ?_;simp only [nf]
 refine plan_nil hH ?_
 clear hH
 intro w16 hH
 refine hK15 _ _ ?_
 (try clear hK15 K15)
 refine wp_seq_k ?_
 intro K17 hK17
 refine wrt [.p 0, .p 1, .x 2, .p 3] ?_
 refine pm ?_;simp only [nf]
 refine pp rfl rfl (pr_len_Sl (hb.chg hH.chg) rfl Tryd.underlying22) ?_;simp only [nf]
 refine plan_make (n := 0) rfl rfl hH rfl rfl Tryd.underlying22 sz5 bz5 ze5 rfl (by first | omega | (simp only [List.length_take, List.length_drop, List.length_cons, List.length_nil] at *; omega)) (by first | omega | (simp only [List.length_take, List.length_drop, List.length_cons, List.length_nil] at *; omega)) (by first | omega | (simp only [List.length_take, List.length_drop, List.length_cons, List.length_nil] at *; omega)) ?_
 clear hH
 intro b18 w19 hH
 (try simp only [nf] at hH ⊢)
 rw [made_arr8] at hH
 (try simp only [nf, nh, Value.cells] at hH ⊢)
 refine pa ?_;simp only [nf]
 refine plan_nil hH ?_
 clear hH
 intro w20 hH
 refine hK17 _ _ ?_
 (try clear hK17 K17)
 refine wp_seq_k ?_
 intro K21 hK21
 refine wp_block ?_
 refine wp_loopT [2, 3, 11, 12] [13, 14, 15, 16, 59, 60, 61, 62, 63, 64, 65, 66, 67, 68, 69, 70, 71, 72, 73, 74, 75, 76, 77, 78, 79, 80, 81, 82, 83, 84, 85, 86, 87, 88, 89, 90, 91, 92, 93, 94, 95, 96, 97, 98, 99, 100, 101, 102, 103, 104, 105, 106, 107, 108, 109] (fun (n22 : Nat) (vs : List Value) (w' : World) => ∃ (p m : Nat) (n : UInt32) (e : Nat → UInt8) (bv : Value) (o : Option Nat) (cap : Nat) (cs : Array Value), vs = [I64 (m : Nat), bv, V32 n, own o p cap] ∧ Hp [] w w' [(some b7, 87, arr8 16 e), (o, 5, cs)] ∧ n22 = l.length - p ∧ p ≤ l.length ∧ m < 16 ∧ Sl w bv (l.drop p) ∧ OwnC o p cap 1 cs ((strm kf cf a l p).map V8) ∧ (p < l.length → m = (a + p) % 16 ∧ n = be32 cf + UInt32.ofNat ((a + p) / 16)) ∧ (∀ i, i < 12 → e i = cf i)) (l.length - 0) (by kernel_rfl) ?_ ?_
 ·
  simp only [ga]
  refine ⟨0, _, _, fun i => cl.getD i 0, _, _, _, arr8 l.length fun _ => 0, rfl, ?_, rfl, ?_, ?_, ?_, ?_, ?_, ?_⟩
  ·
   exact hH
  · first | omega | (omega)
  · first | omega | (omega)
  · first | omega | (exact hb)
  · first | omega | (exact OwnC.made0 (by simp))
  · first | omega | (intro _; unfold be32; rw [← hcf 12 (by omega), ← hcf 13 (by omega), ← hcf 14 (by omega), ← hcf 15 (by omega)]; exact ⟨rfl, rfl⟩)
  · first | omega | (exact fun i hi => hcf i (by omega))
 clear hH
 intro n22 vs23 w24 hR25 d0
 obtain ⟨p, m, n, e, bv, o, cap, cs, rfl, hH, hn26, hf27, hf28, hbv, hO, hpn, he⟩ := hR25
 simp only [putAll, putD, List.set_cons_zero, List.set_cons_succ, Nat.zero_add, Nat.reduceAdd]
 refine wp_seq_k ?_
 intro K29 hK29
 refine wp_seq_k ?_
 intro K30 hK30
 refine wrt [.p 0, .p 1, .p 2] ?_
 refine pm ?_;simp only [nf]
 refine pp rfl rfl (pr_len_Sl (hbv.chg hH.chg) rfl Tryd.underlying22) ?_;simp only [nf]
 refine pp rfl rfl (pr_bin rfl rfl (by first | exact bin_gtr_n (n := 0)  | exact bin_gtr_i)) ?_;simp only [nf]
 refine plan_nil hH ?_
 clear hH
 intro w31 hH
 refine hK30 _ _ ?_
 (try clear hK30 K30)
 refine wp_cond_split rfl (fun hc32 => ?_) (fun hc32 => ?_)
 ·
  (try simp only [cnd] at hc32)
  refine wp_skip ?_
  refine hK29 _ _ ?_
  (try clear hK29 K29)
  refine wp_block ?_
  refine wp_seq_k ?_
  intro K33 hK33
  refine wrt [.p 0, .p 1, .p 2, .p 3, .p 4, .p 5, .p 6, .p 7, .p 8, .p 9, .p 10, .p 11, .e 12, .p 13, .e 14, .p 15, .e 16, .p 17, .e 18] ?_
  refine pm ?_;simp only [nf]
  refine pp rfl rfl (pr_bin rfl rfl (bin_shrc_u32 24 24 (by decide) rfl _)) ?_;simp only [nf]
  refine pp rfl rfl (pr_conv rfl (cnv_u32_u8 _ Tryd.underlying113 Tryd.underlying5)) ?_;simp only [nf]
  refine pm ?_;simp only [nf]
  refine pp rfl rfl (pr_bin rfl rfl (bin_shrc_u32 16 16 (by decide) rfl _)) ?_;simp only [nf]
  refine pp rfl rfl (pr_conv rfl (cnv_u32_u8 _ Tryd.underlying113 Tryd.underlying5)) ?_;simp only [nf]
  refine pm ?_;simp only [nf]
  refine pp rfl rfl (pr_bin rfl rfl (bin_shrc_u32 8 8 (by decide) rfl _)) ?_;simp only [nf]
  refine pp rfl rfl (pr_conv rfl (cnv_u32_u8 _ Tryd.underlying113 Tryd.underlying5)) ?_;simp only [nf]
  refine pm ?_;simp only [nf]
  refine pp rfl rfl (pr_conv rfl (cnv_u32_u8 _ Tryd.underlying113 Tryd.underlying5)) ?_;simp only [nf]
  refine pp rfl rfl (pr_idxA1 (i := 12) rfl rfl Tryd.underlying87 sz5 (by first | omega | (simp only [List.length_take, List.length_drop, List.length_cons, List.length_nil] at *; omega))) ?_;simp only [nf]
  refine plan_store1 0 rfl rfl hH rfl rfl rfl rfl sz5 (by simp <;> omega) ?_
  clear hH
  intro w34 hH
  (try simp only [nf, nh, Value.cells] at hH ⊢)
  refine pp rfl rfl (pr_idxA1 (i := 13) rfl rfl Tryd.underlying87 sz5 (by first | omega | (simp only [List.length_take, List.length_drop, List.length_cons, List.length_nil] at *; omega))) ?_;simp only [nf]
  refine plan_store1 0 rfl rfl hH rfl rfl rfl rfl sz5 (by simp <;> omega) ?_
  clear hH
  intro w35 hH
  (try simp only [nf, nh, Value.cells] at hH ⊢)
  refine pp rfl rfl (pr_idxA1 (i := 14) rfl rfl Tryd.underlying87 sz5 (by first | omega | (simp only [List.length_take, List.length_drop, List.length_cons, List.length_nil] at *; omega))) ?_;simp only [nf]
  refine plan_store1 0 rfl rfl hH rfl rfl rfl rfl sz5 (by simp <;> omega) ?_
  clear hH
  intro w36 hH
  (try simp only [nf, nh, Value.cells] at hH ⊢)
  refine pp rfl rfl (pr_idxA1 (i := 15) rfl rfl Tryd.underlying87 sz5 (by first | omega | (simp only [List.length_take, List.length_drop, List.length_cons, List.length_nil] at *; omega))) ?_;simp only [nf]
  refine plan_store1 0 rfl rfl hH rfl rfl rfl rfl sz5 (by simp <;> omega) ?_
  clear hH
  intro w37 hH
  (try simp only [nf, nh, Value.cells] at hH ⊢)
  refine plan_nil hH ?_
  clear hH
  intro w38 hH
  replace hH := hH.say 0 rfl (ctr_set cf e n he)
  simp only [List.set_cons_zero] at hH
  refine hK33 _ _ ?_
  (try clear hK33 K33)
  refine wp_seq_k ?_
  intro K39 hK39
  refine wrt [.p 0, .q 1, .q 2, .x 3, .e 4] ?_
  refine pm ?_;simp only [nf]
  refine pq rfl rfl (qr_loadW rfl (hH.blk 0 rfl) Tryd.underlying87 rfl sz87 (by simp)) ?_;simp only [nf]
  refine pq rfl rfl (qr_call cf62 (fun w' hw => turn_calls _ _ _ w' (hw.nil_blk (hH.chg.nil_blk hc))) rfl) ?_;simp only [nf]
  refine plan_alloc rfl rfl hH zc87 ?_
  clear hH
  intro b40 w41 hH
  (try simp only [nf, nh, Value.cells] at hH ⊢)
  refine plan_storeW 2 rfl rfl hH rfl rfl rfl one_arr8 sz87 (by simp) (by simp) ?_
  clear hH
  intro w42 hH
  (try simp only [nf, nh, Value.cells] at hH ⊢)
  refine plan_nil hH ?_
  clear hH
  intro w43 hH
  refine hK39 _ _ ?_
  (try clear hK39 K39)
  refine wp_seq_k ?_
  intro K44 hK44
  refine wrt [.p 0, .p 1, .p 2, .p 3, .p 4, .p 5] ?_
  refine pm ?_;simp only [nf]
  refine pp rfl rfl (pr_bin rfl rfl (by first | exact bin_sub_n (m := 16) (by first | omega | (simp only [List.length_take, List.length_drop, List.length_cons, List.length_nil] at *; omega)) (by first | omega | (simp only [List.length_take, List.length_drop, List.length_cons, List.length_nil] at *; omega)) | exact bin_sub_i (by first | omega | (simp only [List.length_take, List.length_drop, List.length_cons, List.length_nil] at *; omega)) (by first | omega | (simp only [List.length_take, List.length_drop, List.length_cons, List.length_nil] at *; omega)))) ?_;simp only [nf]
  refine pm ?_;simp only [nf]
  refine pp rfl rfl (pr_len_Sl (hbv.chg hH.chg) rfl Tryd.underlying22) ?_;simp only [nf]
  refine pp rfl rfl (by first | exact pr_min_n rfl rfl | exact pr_min rfl rfl) ?_;simp only [nf]
  refine pa ?_;simp only [nf]
  refine plan_nil hH ?_
  clear hH
  intro w45 hH
  refine hK44 _ _ ?_
  (try clear hK44 K44)
  refine wp_seq_k ?_
  intro K46 hK46
  refine wp_seq_k ?_
  intro K47 hK47
  refine wrt [.p 0, .p 1, .p 2, .p 3, .p 4] ?_
  refine pm (pm ?_);simp only [nf]
  refine pp rfl rfl (pr_slice_Sl_h (hbv.chg hH.chg) rfl rfl Tryd.underlying22 sz5 (by first | omega | (simp only [List.length_take, List.length_drop, List.length_cons, List.length_nil] at *; omega))) ?_;simp only [nf]
  refine pp rfl rfl (pr_len_Sl (Sl.cuth (hbv.chg hH.chg) (by first | omega | (simp only [List.length_take, List.length_drop, List.length_cons, List.length_nil] at *; omega))) rfl Tryd.underlying22) ?_;simp only [nf]
  refine pk 0 ?_;simp only [nf]
  refine plan_nil hH ?_
  clear hH
  intro w48 hH
  refine hK47 _ _ ?_
  (try clear hK47 K47)
  refine wp_block ?_
  refine wp_loopT [12, 89] [15, 16, 90, 91, 92, 93, 94, 95, 96, 97, 98, 99, 100, 101, 102, 103, 104] (fun (n49 : Nat) (vs : List Value) (w' : World) => ∃ (j : Nat) (o : Option Nat) (cap : Nat) (cs : Array Value), vs = [own o (p + j) cap, I64 (j : Nat)] ∧ Hp [] w w' [(some b7, 87, arr8 16 (ctrF cf n)), (o, 5, cs), (some b40, 87, arr8 16 (aesR kf (ctrF cf n) 10))] ∧ n49 = l.length - p - j ∧ j ≤ ((l.drop p).take (min (16 - m) (l.drop p).length)).length ∧ OwnC o (p + j) cap 1 cs ((strm kf cf a l (p + j)).map V8)) (l.length - p - 0) (by kernel_rfl) ?_ ?_
  ·
   simp only [ga]
   refine ⟨0, o, cap, cs, rfl, ?_, rfl, ?_, ?_⟩
   ·
    exact hH
   · first | omega | (omega)
   · first | omega | (exact hO)
  clear hH
  intro n49 vs50 w51 hR52 d1
  obtain ⟨j, o, cap, cs, rfl, hH, hn53, hf54, hO⟩ := hR52
  simp only [putAll, putD, List.set_cons_zero, List.set_cons_succ, Nat.zero_add, Nat.reduceAdd]
  refine wp_seq_k ?_
  intro K55 hK55
  refine wrt [.p 0] ?_
  refine pp rfl rfl (pr_bin rfl rfl (by first | exact bin_lss_n  | exact bin_lss_i)) ?_;simp only [nf]
  refine plan_nil hH ?_
  clear hH
  intro w56 hH
  refine hK55 _ _ ?_
  (try clear hK55 K55)
  refine wp_seq_k ?_
  intro K57 hK57
  refine wp_cond_split rfl (fun hc58 => ?_) (fun hc58 => ?_)
  ·
   (try simp only [cnd] at hc58)
   refine wp_skip ?_
   refine hK57 _ _ ?_
   (try clear hK57 K57)
   refine wp_seq_k ?_
   intro K59 hK59
   refine wp_block ?_
   refine wp_seq_k ?_
   intro K60 hK60
   refine wrt [.p 0, .p 1, .q 2, .p 3, .p 4] ?_
   refine pm ?_;simp only [nf]
   refine pp rfl rfl (pr_idx_Sl (Sl.cuth (hbv.chg hH.chg) (by first | omega | (simp only [List.length_take, List.length_drop, List.length_cons, List.length_nil] at *; omega))) rfl rfl Tryd.underlying22 sz5 (by first | omega | (simp only [List.length_take, List.length_drop, List.length_cons, List.length_nil] at *; omega))) ?_;simp only [nf]
   refine pq rfl rfl (qr_load1 rfl Tryd.underlying5 rfl (Sl.cell (Sl.cuth (hbv.chg hH.chg) (by first | omega | (simp only [List.length_take, List.length_drop, List.length_cons, List.length_nil] at *; omega))) (by first | omega | (simp only [List.length_take, List.length_drop, List.length_cons, List.length_nil] at *; omega)))) ?_;simp only [nf]
   refine pa (pa ?_);simp only [nf]
   refine plan_nil hH ?_
   clear hH
   intro w61 hH
   refine hK60 _ _ ?_
   (try clear hK60 K60)
   refine wrt [.p 0, .p 1, .p 2, .p 3, .p 4, .p 5, .q 6, .p 7, .x 8, .e 9, .p 10] ?_
   refine pm (pm (pm (pm ?_)));simp only [nf]
   refine pp rfl rfl (pr_bin rfl rfl (by first | exact bin_add_n (by first | omega | (simp only [List.length_take, List.length_drop, List.length_cons, List.length_nil] at *; omega)) | exact bin_add_i (by first | omega | (simp only [List.length_take, List.length_drop, List.length_cons, List.length_nil] at *; omega)) (by first | omega | (simp only [List.length_take, List.length_drop, List.length_cons, List.length_nil] at *; omega)))) ?_;simp only [nf]
   refine pp rfl rfl (pr_idxA1 rfl rfl Tryd.underlying87 sz5 (by first | omega | (simp only [List.length_take, List.length_drop, List.length_cons, List.length_nil] at *; omega))) ?_;simp only [nf]
   refine pq rfl rfl (qr_load1 rfl Tryd.underlying5 rfl ((hH.blk 2 rfl).cell (arr8_get (by first | omega | (simp only [List.length_take, List.length_drop, List.length_cons, List.length_nil] at *; omega))))) ?_;simp only [nf]
   refine pp rfl rfl (pr_bin rfl rfl (bin_xor_u8 _ _)) ?_;simp only [nf]
   refine plan_buildSlice rfl rfl hH Tryd.underlying22 (by rfl) (bs1 _) ?_
   clear hH
   intro b62 w63 hH
   (try simp only [nf, nh, Value.cells] at hH ⊢)
   refine plan_append 1 rfl rfl hH rfl hO (fun w' hH => ((OwnC.sl hH 3 rfl (OwnC.of_bytes rfl))).src) rfl rfl Tryd.underlying22 Tryd.underlying22 (.inl ⟨_, rfl⟩) sz5 bz5 ze5 rfl (by simp only [List.length_take, List.length_drop, List.length_cons, List.length_nil] at *; omega) (by simp only [List.length_take, List.length_drop, List.length_cons, List.length_nil] at *; omega) ?_
   clear hH
   intro o64 cap65 cs66 w67 hO68 hH
   (try simp only [nf] at hH ⊢)
   (try simp only [nf, nh, Value.cells] at hH ⊢)
   try rw [← List.map_append] at hO68
   (try simp only [Nat.zero_add, List.nil_append, List.length_nil] at hO68 ⊢)
   refine pa ?_;simp only [nf]
   refine plan_nil hH ?_
   clear hH
   intro w69 hH
   refine hK59 _ _ ?_
   (try clear hK59 K59)
   refine wrt [.p 0, .p 1] ?_
   refine pp rfl rfl (pr_bin rfl rfl (by first | exact bin_add_n (n := 1) (by first | omega | (simp only [List.length_take, List.length_drop, List.length_cons, List.length_nil] at *; omega)) | exact bin_add_i (by first | omega | (simp only [List.length_take, List.length_drop, List.length_cons, List.length_nil] at *; omega)) (by first | omega | (simp only [List.length_take, List.length_drop, List.length_cons, List.length_nil] at *; omega)))) ?_;simp only [nf]
   refine pm ?_;simp only [nf]
   refine plan_nil hH ?_
   clear hH
   intro w70 hH
   (try simp only [Exit.then, Exit.inBlock, ↓reduceIte, Nat.reduceEqDiff])
   refine ⟨l.length - p - (j + 1), ?_, _, rfl, by kernel_rfl, ?_⟩
   · first | omega | (simp only [List.length_take, List.length_drop] at *; omega)
   simp only [ga]
   refine ⟨j + 1, o64, cap65, cs66, rfl, ?_, rfl, ?_, ?_⟩
   ·
    exact hH.take 3
   · first | omega | (omega)
   · first | omega | (rw [← strm_step hpn (Nat.min_le_left _ _) (Nat.min_le_right _ _) (by assumption)]; exact hO68)
  ·
   (try simp only [cnd] at hc58)
   obtain rfl : j = min (16 - m) (l.drop p).length := by simp only [List.length_take, List.length_drop] at *; omega
   refine wp_exit ?_
   (try simp only [Exit.then, Exit.inBlock, ↓reduceIte, Nat.reduceEqDiff])
   refine hK46 _ _ ?_
   (try clear hK46 K46)
   refine wp_seq_k ?_
   intro K71 hK71
   refine wrt [.p 0, .p 1, .p 2, .p 3, .p 4] ?_
   refine pm (pm ?_);simp only [nf]
   refine pp rfl rfl (pr_slice_Sl_l (hbv.chg hH.chg) rfl rfl Tryd.underlying22 sz5 (by first | omega | (simp only [List.length_take, List.length_drop, List.length_cons, List.length_nil] at *; omega))) ?_;simp only [nf]
   refine pa (pka 0 ?_);simp only [nf]
   refine plan_nil hH ?_
   clear hH
   intro w72 hH
   refine hK71 _ _ ?_
   (try clear hK71 K71)
   refine wrt [.p 0, .p 1, .p 2] ?_
   refine pm ?_;simp only [nf]
   refine pp rfl rfl (pr_bin rfl rfl (bin_add_u32 _ 1)) ?_;simp only [nf]
   refine pa ?_;simp only [nf]
   refine plan_nil hH ?_
   clear hH
   intro w73 hH
   (try simp only [Exit.then, Exit.inBlock, ↓reduceIte, Nat.reduceEqDiff])
   refine ⟨l.length - (p + min (16 - m) (l.drop p).length), ?_, _, rfl, by kernel_rfl, ?_⟩
   · first | omega | (simp only [List.length_drop] at *; omega)
   simp only [ga]
   refine ⟨p + min (16 - m) (l.drop p).length, 0, n + 1, ctrF cf n, _, o, cap, cs, rfl, ?_, rfl, ?_, ?_, ?_, ?_, ?_, ?_⟩
   ·
    exact hH.take 2
   · first | omega | (simp only [List.length_drop] at *; omega)
   · first | omega | (simp only [List.length_drop] at *; omega)
   · first | omega | (have := Sl.cutl hbv (lo := min (16 - m) (l.drop p).length) (by omega); rwa [List.drop_drop] at this)
   · first | omega | (exact hO)
   · first | omega | (exact strm_next hpn rfl (by omega))
   · first | omega | (exact ctr_head cf n)
 ·
  (try simp only [cnd] at hc32)
  refine wp_exit ?_
  (try simp only [Exit.then, Exit.inBlock, ↓reduceIte, Nat.reduceEqDiff])
  refine hK21 _ _ ?_
  (try clear hK21 K21)
  refine wp_seq_k ?_
  intro K74 hK74
  refine wrt [.p 0, .p 1, .p 2] ?_
  refine pm (pa (pka 0 ?_));simp only [nf]
  refine plan_nil hH ?_
  clear hH
  intro w75 hH
  refine hK74 _ _ ?_
  (try clear hK74 K74)
  refine wp_ret ?_
  (try simp only [Exit.then, Exit.inBlock, ↓reduceIte, Nat.reduceEqDiff])
  refine BP.ret2 rfl rfl rfl ?_
  have hp : p = l.length := by simp only [List.length_drop] at *; omega
  subst hp
  exact ⟨_, _, _, rfl, hH.chg, hO, hH.owned 1 rfl⟩
end Go.Proofs.YtmoaddicejohgaaDoor
set_option linter.unusedSimpArgs false
set_option linter.unusedVariables false
set_option maxRecDepth 100000
set_option maxHeartbeats 4000000
namespace Go.Proofs.YtmoaddicejohgaaDoor
open Go
open List (getD_cons_zero getD_cons_succ set_cons_zero set_cons_succ)
theorem strm_len (K c : Nat → UInt8) (a : Nat) (l : List UInt8) (n : Nat) : (strm K c a l n).length = n := by simp [strm]
theorem strm_at (K c : Nat → UInt8) (a : Nat) (l : List UInt8) {n i : Nat} (h : i < n) : (strm K c a l n).getD i 0 = l.getD i 0 ^^^ ksF K c (a + i) := by
  simp [strm, List.getD, h]
theorem strm_twice (K c : Nat → UInt8) (a : Nat) (l : List UInt8) : strm K c a (strm K c a l l.length) l.length = l := by
  apply List.ext_getElem (by simp [strm])
  intro i h1 h2
  have := strm_at K c a l h2
  simp only [strm, List.getElem_map, List.getElem_range] at this ⊢
  rw [this, UInt8.xor_assoc, UInt8.xor_self, UInt8.xor_zero]
  simp [List.getD, h2]
theorem zeros_getD (n j : Nat) : ((List.range n).map fun _ => (0 : UInt8)).getD j 0 = 0 := by
  simp only [List.getD, List.getElem?_map]
  cases (List.range n)[j]? <;> rfl
theorem take_getD (l : List UInt8) {n i : Nat} (h : i < n) : (l.take n).getD i 0 = l.getD i 0 := by
  simp only [List.getD, List.getElem?_take, h, if_true]
end Go.Proofs.YtmoaddicejohgaaDoor
set_option linter.unusedSimpArgs false
set_option linter.unusedVariables false
set_option maxRecDepth 100000
set_option maxHeartbeats 4000000
namespace Go.Proofs.YtmoaddicejohgaaDoor
open Go
open List (getD_cons_zero getD_cons_succ set_cons_zero set_cons_succ)
def shaReg (l : List UInt8) : Nat → Nat → UInt32
  | 0 => shaH
  | k + 1 => shaB (shaReg l k) fun i => l.getD (64 * k + i) 0
theorem shaReg_succ (l : List UInt8) (k : Nat) : shaB (shaReg l k) (fun i => (l.drop (64 * k)).getD i 0) = shaReg l (k + 1) := by
  show _ = shaB (shaReg l k) fun i => l.getD (64 * k + i) 0
  congr 1
  funext i
  simp only [List.getD, List.getElem?_drop]
theorem shaW_congr {p q : Nat → UInt8} (h : ∀ i, i < 64 → p i = q i) : ∀ n, n < 64 → shaW p n = shaW q n := by
  intro n
  induction n using Nat.strongRecOn with
  | ind n ih =>
    intro hn
    by_cases h16 : n < 16
    · rw [shaW_lo _ h16, shaW_lo _ h16]
      unfold shaWord
      rw [h _ (by omega), h _ (by omega), h _ (by omega), h _ (by omega)]
    · rw [shaW_hi _ h16, shaW_hi _ h16, ih _ (by omega) (by omega), ih _ (by omega) (by omega), ih _ (by omega) (by omega), ih _ (by omega) (by omega)]
theorem shaR_congr {r w w' : Nat → UInt32} : ∀ n, (∀ i, i < n → w i = w' i) → shaR r w n = shaR r w' n
  | 0, _ => rfl
  | n + 1, h => by
    unfold shaR
    rw [shaR_congr n fun i hi => h i (by omega), h n (by omega)]
theorem shaB_congr {r : Nat → UInt32} {p q : Nat → UInt8} (h : ∀ i, i < 64 → p i = q i) : shaB r p = shaB r q := by
  unfold shaB
  rw [shaR_congr 64 fun i hi => shaW_congr h i hi]
theorem shaReg_app (l bl : List UInt8) : ∀ k, 64 * k ≤ l.length → shaReg (l ++ bl) k = shaReg l k
  | 0, _ => rfl
  | k + 1, h => by
    unfold shaReg
    rw [shaReg_app l bl k (by omega)]
    refine shaB_congr fun i hi => ?_
    simp only [List.getD, List.getElem?_append]
    rw [if_pos (by omega)]
def restL (l : List UInt8) : List UInt8 := l.drop (64 * (l.length / 64))
def hashC (r : Nat → UInt32) (v : Value) (n : Nat) : Array Value := arr32 8 r ++ #[v, I64 (n : Nat)]
@[simp] theorem hashC_size (r : Nat → UInt32) (v : Value) (n : Nat) : (hashC r v n).size = 10 := by simp [hashC]
theorem hashC_rest {r : Nat → UInt32} {v : Value} {n : Nat} : (hashC r v n)[8]? = some v := by
  unfold hashC
  rw [Array.getElem?_append_right (by simp)]; simp
theorem hashC_n {r : Nat → UInt32} {v : Value} {n : Nat} : (hashC r v n)[9]? = some (I64 (n : Nat)) := by
  unfold hashC
  rw [Array.getElem?_append_right (by simp)]; simp
theorem hashC_r {r : Nat → UInt32} {v : Value} {n i : Nat} (h : i < 8) : (hashC r v n)[i]? = some (V32 (r i)) := by
  unfold hashC
  rw [Array.getElem?_append_left (by simpa using h), arr32_get h]
theorem hashC_ext {r : Nat → UInt32} {v : Value} {n : Nat} : (hashC r v n).extract 0 (0 + 8) = arr32 8 r := by
  refine tabV_ext (by simp) fun i hi => ?_
  rw [Array.getElem?_extract, if_pos (by simp; omega), Nat.zero_add, hashC_r hi]
theorem hashC_eq {cs : Array Value} {r : Nat → UInt32} {v : Value} {n : Nat} (hs : cs.size = 10) (h : ∀ i, i < 8 → cs[i]? = some (V32 (r i))) (h8 : cs[8]? = some v) (h9 : cs[9]? = some (I64 (n : Nat))) : cs = hashC r v n := by
  apply Array.ext_getElem?
  intro i
  by_cases h1 : i < 8
  · rw [h i h1, hashC_r h1]
  · by_cases h2 : i = 8
    · subst h2; rw [h8, hashC_rest]
    · by_cases h3 : i = 9
      · subst h3; rw [h9, hashC_n]
      · rw [Array.getElem?_eq_none (by omega), Array.getElem?_eq_none (by rw [hashC_size]; omega)]
theorem hashC_set8 (r : Nat → UInt32) (v u : Value) (n : Nat) : (hashC r v n).setIfInBounds 8 u = hashC r u n := by
  refine hashC_eq (by simp) (fun i hi => ?_) ?_ ?_
  · rw [Array.getElem?_setIfInBounds, if_neg (by omega), hashC_r hi]
  · rw [Array.getElem?_setIfInBounds, if_pos rfl, if_pos (by simp)]
  · rw [Array.getElem?_setIfInBounds, if_neg (by omega), hashC_n]
theorem hashC_set9 (r : Nat → UInt32) (v : Value) (n m : Nat) : (hashC r v n).setIfInBounds 9 (I64 (m : Nat)) = hashC r v m := by
  refine hashC_eq (by simp) (fun i hi => ?_) ?_ ?_
  · rw [Array.getElem?_setIfInBounds, if_neg (by omega), hashC_r hi]
  · rw [Array.getElem?_setIfInBounds, if_neg (by omega), hashC_rest]
  · rw [Array.getElem?_setIfInBounds, if_pos rfl, if_pos (by simp)]
theorem hashC_spl (r q : Nat → UInt32) (v : Value) (n : Nat) : splice (hashC r v n) 0 (arr32 8 q) = hashC q v n := by
  have hs : 0 + (arr32 8 q).size ≤ (hashC r v n).size := by simp
  refine hashC_eq (by rw [splice_size hs]; simp) (fun i hi => ?_) ?_ ?_
  · rw [splice_get hs, if_pos (by simp; omega), Nat.sub_zero, arr32_get hi]
  · rw [splice_get hs, if_neg (by simp), hashC_rest]
  · rw [splice_get hs, if_neg (by simp), hashC_n]
theorem Tabs.lt {w : World} (h : Tabs w) : 2 ≤ w.heap.size := by
  have := block_lt_of_cell (h.2 0 (by decide))
  exact this
theorem Hp.start2 {w : World} {b : Nat} {t t2 : TypeId} {cs cs2 : Array Value} {o : Option Nat} (h : Blk w b t cs) (ho : ∀ x, o = some x → Blk w x t2 cs2 ∧ x ≠ b) : Hp (b :: o.toList) w w [(some b, t, cs), (o, t2, cs2)] := by
  have h1 : Hp (b :: o.toList) w w [(some b, t, cs)] := (Hp.start (b :: o.toList) w).add (some b, t, cs) (fun b' hb' => by cases hb'; exact ⟨.inr (by simp), h⟩) (by simp)
  refine h1.add (o, t2, cs2) (fun x hx => ⟨.inr ?_, (ho x hx).1⟩) (fun e he x hx hxe => ?_)
  · have hx : o = some x := hx
    subst hx; simp
  · simp only [List.mem_singleton] at he
    subst he
    cases hxe
    exact (ho _ hx).2 rfl
theorem Hp.callw2 {S : List Nat} {w0 w w' : World} {L : List Own} (h : Hp S w0 w L) (i j : Nat) {b : Nat} {t t2 : TypeId} {cs cs' cs2 cs2' : Array Value} {o o' : Option Nat} (hi : L[i]? = some (some b, t, cs)) (hj : L[j]? = some (o, t2, cs2)) (hij : i ≠ j)
    (hc : Chg (b :: o.toList) w w') (hb : Blk w' b t cs') (ho : ∀ x, o' = some x → Blk w' x t2 cs2' ∧ x ≠ b ∧ (w.heap.size ≤ x ∨ x ∈ o.toList)) : Hp S w0 w' ((L.set i (some b, t, cs')).set j (o', t2, cs2')) where
  chg := h.chg.trans' hc (fun x hx hlt => by
    rcases List.mem_cons.1 hx with rfl | hx
    · rcases h.mine i hi with h1 | h1
      · omega
      · exact h1
    · have hx : o = some x := by cases o <;> simp_all
      subst hx
      rcases h.mine j hj with h1 | h1
      · omega
      · exact h1)
  own x hx y hy := by
    obtain ⟨m, hm⟩ := List.mem_iff_getElem?.1 hx
    rw [List.getElem?_set] at hm
    by_cases e1 : j = m
    · rw [if_pos e1] at hm
      split at hm
      · cases hm
        have hy : o' = some y := hy
        obtain ⟨h1, h2, h3⟩ := ho y hy
        refine ⟨?_, h1⟩
        rcases h3 with h3 | h3
        · have := h.chg.size; exact .inl (by omega)
        · have : o = some y := by cases o <;> simp_all
          subst this
          exact h.mine j hj
      · cases hm
    · rw [if_neg e1, List.getElem?_set] at hm
      by_cases e2 : i = m
      · rw [if_pos e2] at hm
        split at hm
        · cases hm; cases hy; exact ⟨h.mine i hi, hb⟩
        · cases hm
      · rw [if_neg e2] at hm
        have hmem := List.mem_of_getElem? hm
        obtain ⟨h1, h2⟩ := h.own x hmem y hy
        refine ⟨h1, hc.blk h2 fun hin => ?_⟩
        rcases List.mem_cons.1 hin with rfl | hin
        · exact e2 (h.apart i m y (by rw [hi]; rfl) (by rw [hm]; exact hy))
        · have : o = some y := by cases o <;> simp_all
          subst this
          exact e1 (h.apart j m y (by rw [hj]; rfl) (by rw [hm]; exact hy))
  apart m m' y hm hm' := by
    have key : ∀ q : Nat, (((L.set i (some b, t, cs')).set j (o', t2, cs2'))[q]?).bind Own.at = some y → (q = j ∧ o' = some y) ∨ (q ≠ j ∧ q = i ∧ b = y) ∨ (q ≠ j ∧ q ≠ i ∧ (L[q]?).bind Own.at = some y) := by
      intro q hq
      rw [List.getElem?_set] at hq
      by_cases e1 : j = q
      · rw [if_pos e1] at hq
        split at hq
        · exact .inl ⟨e1.symm, hq⟩
        · simp at hq
      · rw [if_neg e1, List.getElem?_set] at hq
        by_cases e2 : i = q
        · rw [if_pos e2] at hq
          split at hq
          · exact .inr (.inl ⟨fun h => e1 h.symm, e2.symm, by simpa [Own.at] using hq⟩)
          · simp at hq
        · rw [if_neg e2] at hq
          exact .inr (.inr ⟨fun h => e1 h.symm, fun h => e2 h.symm, hq⟩)
    have old : ∀ q, q ≠ j → (L[q]?).bind Own.at = some y → o' = some y → False := by
      intro q hqj hq hoy
      obtain ⟨h1, h2, h3⟩ := ho y hoy
      obtain ⟨x, hx, hxb⟩ := Option.bind_eq_some_iff.1 hq
      rcases h3 with h3 | h3
      · have := h.lt (List.mem_of_getElem? hx) hxb; omega
      · have : o = some y := by cases o <;> simp_all
        subst this
        exact hqj (h.apart q j y hq (by rw [hj]; rfl))
    rcases key m hm with ⟨a1, a2⟩ | ⟨a0, a1, a2⟩ | ⟨a0, a1, a2⟩ <;> rcases key m' hm' with ⟨c1, c2⟩ | ⟨c0, c1, c2⟩ | ⟨c0, c1, c2⟩
    · omega
    · exact ((ho y a2).2.1 c2.symm).elim
    · exact (old m' c0 c2 a2).elim
    · exact ((ho y c2).2.1 a2.symm).elim
    · omega
    · exact (c1 (h.apart m' i y c2 (by rw [hi]; exact congrArg some a2))).elim
    · exact (old m a0 a2 c2).elim
    · exact (a1 (h.apart m i y a2 (by rw [hi]; exact congrArg some c2))).elim
    · exact h.apart m m' y a2 c2
def hashL (l : List UInt8) (v : Value) : Array Value := hashC (shaReg l (l.length / 64)) v l.length
@[simp] theorem hashL_size (l : List UInt8) (v : Value) : (hashL l v).size = 10 := by simp [hashL]
theorem restL_app (l bl : List UInt8) : (l ++ bl).drop (64 * (l.length / 64)) = restL l ++ bl := by
  rw [List.drop_append_of_le_length (by omega)]; rfl
theorem restL_len (l : List UInt8) : (restL l).length = l.length % 64 := by
  unfold restL; rw [List.length_drop]; omega
theorem OwnD.next {o : Option Nat} {f m c : Nat} {cs : Array Value} {l : List UInt8} {k : Nat} (h : OwnD o f m c cs (l.drop (64 * k))) (hm : 64 ≤ m) : OwnD o (cutO f 64 c) (m - 64) (c - 64) cs (l.drop (64 * (k + 1))) := by
  have h2 := OwnD.cutl h hm
  rw [List.drop_drop] at h2
  first | exact h2 | (rw [Nat.add_comm] at h2; exact h2)
theorem Hp.no {w0 w : World} {L : List Own} (h : Hp [] w0 w L) (hT : Tabs w0) (i j : Nat) {b : Nat} {t t2 : TypeId} {cs cs2 : Array Value} {o : Option Nat} (hi : L[i]? = some (some b, t, cs)) (hj : L[j]? = some (o, t2, cs2)) {g : Nat} (hg : g < 2) : g ∉ b :: o.toList := by
  have hl := hT.lt
  intro hin
  rcases List.mem_cons.1 hin with rfl | hin
  · have := (h.mine i hi).resolve_right (by simp); omega
  · have : o = some g := by cases o <;> simp_all
    subst this
    have := (h.mine j hj).resolve_right (by simp); omega
theorem Hp.sure2 {w0 w w' : World} {L : List Own} (h : Hp [] w0 w L) (i j : Nat) {b : Nat} {t t2 : TypeId} {cs cs2 : Array Value} {o : Option Nat} (hi : L[i]? = some (some b, t, cs)) (hj : L[j]? = some (o, t2, cs2)) (hc : Chg (b :: o.toList) w w') : Chg [] w0 w' :=
  h.chg.trans' hc fun x hx hlt => by
    rcases List.mem_cons.1 hx with rfl | hx
    · have := (h.mine i hi).resolve_right (by simp); omega
    · have hx : o = some x := by cases o <;> simp_all
      subst hx
      have := (h.mine j hj).resolve_right (by simp); omega
theorem Hp.keep2 {w0 w w' : World} {L : List Own} (h : Hp [] w0 w L) (i j k : Nat) {b : Nat} {t t2 : TypeId} {cs cs2 : Array Value} {o : Option Nat} {e : Own} (hi : L[i]? = some (some b, t, cs)) (hj : L[j]? = some (o, t2, cs2)) (hk : L[k]? = some e) (hki : k ≠ i) (hkj : k ≠ j) (hc : Chg (b :: o.toList) w w') : Hp [] w0 w' [e] where
  chg := h.sure2 i j hi hj hc
  own x hx y hy := by
    simp only [List.mem_singleton] at hx
    subst hx
    obtain ⟨h1, h2⟩ := h.own x (List.mem_of_getElem? hk) y hy
    refine ⟨h1, hc.blk h2 fun hin => ?_⟩
    rcases List.mem_cons.1 hin with rfl | hin
    · exact hki (h.apart k i y (by rw [hk]; exact hy) (by rw [hi]; rfl))
    · have : o = some y := by cases o <;> simp_all
      subst this
      exact hkj (h.apart k j y (by rw [hk]; exact hy) (by rw [hj]; rfl))
  apart m m' y hm hm' := by
    have key : ∀ q : Nat, (([e] : List Own)[q]?).bind Own.at = some y → q = 0 := by
      intro q hq
      cases q with
      | zero => rfl
      | succ q => simp at hq
    rw [key m hm, key m' hm']
theorem Hp.addnone {S : List Nat} {w0 w : World} {L : List Own} (h : Hp S w0 w L) (t : TypeId) (cs : Array Value) : Hp S w0 w (L ++ [(none, t, cs)]) :=
  h.add (none, t, cs) (fun b hb => by cases hb) (fun e he x hx hxe => by cases hx)
theorem shaNew_calls (w : World) (hT : Tabs w) : Ret Tryd.prog 68 #[] w fun v w' => ∃ b, v = PT b 0 ∧ Chg [] w w' ∧ w.heap.size ≤ b ∧ Blk w' b 127 (hashL [] (ownO none 0 0 0)) := by
 refine Ret.enter Tryd.func68 rfl ?_
 simp only [Tryd.ntmps68, fe, Nat.reduceAdd, Nat.reduceSub]
 have hH := Hp.start [] w
 refine wp_seq_k ?_
 intro K1 hK1
 refine wrt [.p 0] ?_
 refine pa ?_;simp only [nf]
 refine plan_nil hH ?_
 clear hH
 intro w2 hH
 refine hK1 _ _ ?_
 (try clear hK1 K1)
 refine wp_seq_k ?_
 intro K3 hK3
 refine wrt [.q 0, .p 1, .x 2, .p 3] ?_
 refine pq rfl rfl (qr_celN (hT.grow hH.chg).1 rfl Tryd.underlying125 rfl sz125) ?_;simp only [nf]
 refine plan_p (v := .agg (hashL [] (ownO none 0 0 0))) rfl rfl (fun w => by kernel_rfl) ?_
 (try simp only [nf])
 refine plan_box rfl rfl hH rfl ?_
 clear hH
 intro b4 w5 hH
 (try simp only [nf, nh, Value.cells, arrB_set] at hH ⊢)
 refine pa ?_;simp only [nf]
 refine plan_nil hH ?_
 clear hH
 intro w6 hH
 refine hK3 _ _ ?_
 (try clear hK3 K3)
 refine wp_ret ?_
 (try simp only [Exit.then, Exit.inBlock, ↓reduceIte, Nat.reduceEqDiff])
 refine BP.ret1 rfl rfl ?_
 exact ⟨_, rfl, hH.chg, (hH.mine 0 rfl).resolve_right (by simp), hH.blk 0 rfl⟩
theorem shaWrite_calls (bh : Nat) (o : Option Nat) (off n cap : Nat) (cs : Array Value) (l bl : List UInt8) (bv : Value) (w : World) (hT : Tabs w) (h0 : 0 ∉ bh :: o.toList) (h1 : 1 ∉ bh :: o.toList)
    (hb : Blk w bh 127 (hashL l (ownO o off n cap))) (hO : OwnD o off n cap cs (restL l)) (hc : ∀ x, o = some x → Blk w x 5 cs ∧ x ≠ bh) (hs : ∀ w', Chg (bh :: o.toList) w w' → Sl w' bv bl) (hm : l.length + bl.length ≤ 140737488355328) :
    Ret Tryd.prog 69 #[PT bh 0, bv] w fun v w' => v = .tuple #[] ∧ ∃ o' f' m' c' cs', Chg (bh :: o.toList) w w' ∧ Blk w' bh 127 (hashL (l ++ bl) (ownO o' f' m' c')) ∧ OwnD o' f' m' c' cs' (restL (l ++ bl)) ∧ ∀ x, o' = some x → Blk w' x 5 cs' ∧ x ≠ bh ∧ (w.heap.size ≤ x ∨ x ∈ o.toList) := by
 unfold hashL at hb
 have hrl := hO.len
 rw [restL_len] at hrl
 refine Ret.enter Tryd.func69 rfl ?_
 simp only [Tryd.ntmps69, fe, Nat.reduceAdd, Nat.reduceSub]
 have hH := Hp.start2 hb hc
 refine wp_seq_k ?_
 intro K1 hK1
 refine wp_seq_k ?_
 intro K2 hK2
 refine wrt [.p 0, .p 1] ?_
 refine pm ?_;simp only [nf]
 refine pp rfl rfl (pr_bin rfl rfl (bin_eql_pn Tryd.underlying119)) ?_;simp only [nf]
 refine plan_nil hH ?_
 clear hH
 intro w3 hH
 refine hK2 _ _ ?_
 (try clear hK2 K2)
 refine wp_cond_false rfl ?_
 refine wp_skip ?_
 refine hK1 _ _ ?_
 (try clear hK1 K1)
 refine wp_seq_k ?_
 intro K4 hK4
 refine wrt [.p 0, .p 1, .p 2, .q 3, .p 4, .p 5, .p 6, .p 7, .p 8, .e 9] ?_
 refine pm ?_;simp only [nf]
 refine pp rfl rfl (pr_nilCheck rfl) ?_;simp only [nf]
 refine pp rfl rfl (pr_fieldAddr 9 rfl Tryd.underlying127 rfl rfl sz3) ?_;simp only [nf]
 refine pq rfl rfl (qr_load1 rfl Tryd.underlying3 rfl ((hH.blk 0 rfl).cell hashC_n)) ?_;simp only [nf]
 refine pm ?_;simp only [nf]
 refine pp rfl rfl (pr_len_Sl (hs _ hH.chg) rfl Tryd.underlying22) ?_;simp only [nf]
 refine pp rfl rfl (pr_bin rfl rfl (by first | exact bin_add_n (by omega) | exact bin_add_i (by omega) (by omega))) ?_;simp only [nf]
 refine pp rfl rfl (pr_nilCheck rfl) ?_;simp only [nf]
 refine pp rfl rfl (pr_fieldAddr 9 rfl Tryd.underlying127 rfl rfl sz3) ?_;simp only [nf]
 refine plan_store1 0 rfl rfl hH rfl rfl rfl rfl sz3 (by simp <;> omega) ?_
 clear hH
 intro w5 hH
 (try simp only [nf, nh, Value.cells, arrB_set, hashC_set8, hashC_set9, hashC_spl] at hH ⊢)
 refine plan_nil hH ?_
 clear hH
 intro w6 hH
 refine hK4 _ _ ?_
 (try clear hK4 K4)
 refine wp_seq_k ?_
 intro K7 hK7
 refine wrt [.p 0, .p 1, .p 2, .p 3, .q 4, .p 5, .e 6, .p 7, .p 8, .e 9] ?_
 refine pm (pm ?_);simp only [nf]
 refine pp rfl rfl (pr_nilCheck rfl) ?_;simp only [nf]
 refine pp rfl rfl (pr_fieldAddr 8 rfl Tryd.underlying127 rfl rfl sz22) ?_;simp only [nf]
 refine pq rfl rfl (qr_load1 rfl Tryd.underlying22 rfl ((hH.blk 0 rfl).cell hashC_rest)) ?_;simp only [nf]
 refine pm ?_;simp only [nf]
 refine plan_appendD 1 rfl rfl hH rfl hO (fun w' hH => ((hs _ hH.chg)).src) rfl rfl Tryd.underlying22 Tryd.underlying22 (.inl ⟨_, rfl⟩) sz5 bz5 ze5 (by first | omega | (simp <;> omega)) ?_
 clear hH
 intro o8 off9 cap10 cs11 w12 hO13 hH
 (try simp only [nf] at hH ⊢)
 (try simp only [nf, nh, Value.cells, arrB_set, hashC_set8, hashC_set9, hashC_spl] at hH ⊢)
 refine pp rfl rfl (pr_nilCheck rfl) ?_;simp only [nf]
 refine pp rfl rfl (pr_fieldAddr 8 rfl Tryd.underlying127 rfl rfl sz22) ?_;simp only [nf]
 refine plan_store1 0 rfl rfl hH rfl rfl rfl rfl sz22 (by simp <;> omega) ?_
 clear hH
 intro w14 hH
 (try simp only [nf, nh, Value.cells, arrB_set, hashC_set8, hashC_set9, hashC_spl] at hH ⊢)
 refine plan_nil hH ?_
 clear hH
 intro w15 hH
 refine hK7 _ _ ?_
 (try clear hK7 K7)
 refine wp_block ?_
 refine wp_loopT [] [24, 25, 26, 27, 28, 29, 30, 31, 32, 33, 34, 35, 36, 37, 38, 39, 40, 41, 42, 43, 44, 45, 46, 47, 48, 49] (fun (n16 : Nat) (vs : List Value) (w' : World) => ∃ (k f m c : Nat), vs = [] ∧ Hp (bh :: o.toList) w w' [(some bh, 127, hashC (shaReg (l ++ bl) k) (ownO o8 f m c) (l.length + bl.length)), (o8, 5, cs11)] ∧ n16 = m ∧ 64 * k ≤ l.length + bl.length ∧ OwnD o8 f m c cs11 ((l ++ bl).drop (64 * k))) (n + bl.length) (by kernel_rfl) ?_ ?_
 ·
  simp only [ga]
  refine ⟨l.length / 64, off9, n + bl.length, cap10, trivial, ?_, rfl, ?_, ?_⟩
  ·
   rw [shaReg_app _ _ _ (by omega)]
   exact hH
  · first | omega | (omega)
  · first | omega | (rw [restL_app]; assumption)
 clear hH
 intro n16 vs17 w18 hR19 d0
 obtain ⟨k, f, m, c, rfl, hH, hn20, hf21, hD⟩ := hR19
 simp only [putAll, putD, List.set_cons_zero, List.set_cons_succ, Nat.zero_add, Nat.reduceAdd]
 have hml := hD.len
 rw [List.length_drop, List.length_append] at hml
 refine wp_seq_k ?_
 intro K22 hK22
 refine wp_seq_k ?_
 intro K23 hK23
 refine wrt [.p 0, .p 1, .p 2, .q 3, .p 4, .p 5] ?_
 refine pm ?_;simp only [nf]
 refine pp rfl rfl (pr_nilCheck rfl) ?_;simp only [nf]
 refine pp rfl rfl (pr_fieldAddr 8 rfl Tryd.underlying127 rfl rfl sz22) ?_;simp only [nf]
 refine pq rfl rfl (qr_load1 rfl Tryd.underlying22 rfl ((hH.blk 0 rfl).cell hashC_rest)) ?_;simp only [nf]
 refine pp rfl rfl (pr_len_sl rfl Tryd.underlying22) ?_;simp only [nf]
 refine pp rfl rfl (pr_bin rfl rfl (by first | exact bin_geq_n (n := 64)  | exact bin_geq_i)) ?_;simp only [nf]
 refine plan_nil hH ?_
 clear hH
 intro w24 hH
 refine hK23 _ _ ?_
 (try clear hK23 K23)
 refine wp_cond_split rfl (fun hc25 => ?_) (fun hc25 => ?_)
 ·
  (try simp only [cnd] at hc25)
  refine wp_skip ?_
  refine hK22 _ _ ?_
  (try clear hK22 K22)
  refine wp_block ?_
  refine wp_seq_k ?_
  intro K26 hK26
  refine wrp [.p 0, .p 1, .p 2, .p 3, .p 5, .p 6, .p 7, .q 4, .q 8, .q 9, .p 10, .p 11, .e 12] ?_
  refine pm (pm ?_);simp only [nf]
  refine pp rfl rfl (pr_nilCheck rfl) ?_;simp only [nf]
  refine pp rfl rfl (pr_fieldAddr 0 rfl Tryd.underlying127 rfl rfl sz125) ?_;simp only [nf]
  refine pm ?_;simp only [nf]
  refine pp rfl rfl (pr_nilCheck rfl) ?_;simp only [nf]
  refine pp rfl rfl (pr_fieldAddr 8 rfl Tryd.underlying127 rfl rfl sz22) ?_;simp only [nf]
  refine pq rfl rfl (qr_loadE _ rfl (hH.blk 0 rfl) Tryd.underlying125 rfl sz125 (by rw [hashC_size]; omega) hashC_ext) ?_;simp only [nf]
  refine pq rfl rfl (qr_load1 rfl Tryd.underlying22 rfl ((hH.blk 0 rfl).cell hashC_rest)) ?_;simp only [nf]
  refine pq rfl rfl (qr_call cf76 (fun w' hw => shamix_calls _ _ _ w' ((hT.chg hH.chg h0 h1).grow hw) ((OwnD.sl hH 1 rfl hD).chg hw) (by first | omega | (simp <;> omega))) rfl) ?_;simp only [nf]
  refine pp rfl rfl (pr_nilCheck rfl) ?_;simp only [nf]
  refine pp rfl rfl (pr_fieldAddr 0 rfl Tryd.underlying127 rfl rfl sz125) ?_;simp only [nf]
  refine plan_storeN 0 rfl rfl hH rfl rfl rfl one_arr32 sz125 (by simp) (by simp <;> omega) ?_
  clear hH
  intro w27 hH
  (try simp only [nf, nh, Value.cells, arrB_set, hashC_set8, hashC_set9, hashC_spl] at hH ⊢)
  refine plan_nil hH ?_
  clear hH
  intro w28 hH
  refine hK26 _ _ ?_
  (try clear hK26 K26)
  refine wrt [.p 0, .p 1, .p 2, .p 3, .q 4, .p 5, .p 6, .p 7, .e 8] ?_
  refine pm (pm ?_);simp only [nf]
  refine pp rfl rfl (pr_nilCheck rfl) ?_;simp only [nf]
  refine pp rfl rfl (pr_fieldAddr 8 rfl Tryd.underlying127 rfl rfl sz22) ?_;simp only [nf]
  refine pq rfl rfl (qr_load1 rfl Tryd.underlying22 rfl ((hH.blk 0 rfl).cell hashC_rest)) ?_;simp only [nf]
  refine pp rfl rfl (pr_slice_D (lo := 64) rfl rfl Tryd.underlying22 sz5 (by omega)) ?_;simp only [nf]
  refine pp rfl rfl (pr_nilCheck rfl) ?_;simp only [nf]
  refine pp rfl rfl (pr_fieldAddr 8 rfl Tryd.underlying127 rfl rfl sz22) ?_;simp only [nf]
  refine plan_store1 0 rfl rfl hH rfl rfl rfl rfl sz22 (by simp <;> omega) ?_
  clear hH
  intro w29 hH
  (try simp only [nf, nh, Value.cells, arrB_set, hashC_set8, hashC_set9, hashC_spl] at hH ⊢)
  refine plan_nil hH ?_
  clear hH
  intro w30 hH
  (try simp only [Exit.then, Exit.inBlock, ↓reduceIte, Nat.reduceEqDiff])
  refine ⟨m - 64, ?_, _, rfl, by kernel_rfl, ?_⟩
  · first | omega | (omega)
  simp only [ga]
  refine ⟨k + 1, cutO f 64 c, m - 64, c - 64, trivial, ?_, rfl, ?_, ?_⟩
  ·
   rw [shaReg_succ] at hH
   exact hH
  · first | omega | (omega)
  · first | omega | (exact OwnD.next hD (by omega))
 ·
  (try simp only [cnd] at hc25)
  refine wp_exit ?_
  (try simp only [Exit.then, Exit.inBlock, ↓reduceIte, Nat.reduceEqDiff])
  refine BP.normal ?_
  refine BP.ret0 rfl rfl ?_
  obtain rfl : k = (l ++ bl).length / 64 := by rw [List.length_append]; omega
  refine ⟨rfl, _, f, m, c, _, hH.chg, ?_, hD, fun x hx => ?_⟩
  · unfold hashL
    simpa only [List.length_append] using hH.blk 0 rfl
  · subst hx
    have hne := hH.other (i := 0) rfl (j := 1) rfl (by decide) rfl
    refine ⟨hH.blk 1 rfl, hne, ?_⟩
    rcases hH.mine 1 rfl with h | h
    · exact .inl h
    · exact .inr ((List.mem_cons.1 h).resolve_left hne)
end Go.Proofs.YtmoaddicejohgaaDoor
set_option linter.unusedSimpArgs false
set_option linter.unusedVariables false
set_option maxRecDepth 100000
set_option maxHeartbeats 4000000
namespace Go.Proofs.YtmoaddicejohgaaDoor
open Go
open List (getD_cons_zero getD_cons_succ set_cons_zero set_cons_succ)
def shaZ (n : Nat) : Nat := (120 - (n + 1) % 64) % 64
def shaN (n j : Nat) : UInt8 := (if 56 - 8 * j < 64 then UInt64.ofNat n <<< 3 >>> UInt64.ofNat (56 - 8 * j) else 0).toUInt8
def shaPad (l : List UInt8) : List UInt8 := l ++ (128 :: (List.replicate (shaZ l.length) 0 ++ (List.range 8).map (shaN l.length)))
def shaD (l : List UInt8) (i : Nat) : UInt8 := (if 24 - 8 * (i % 4) < 32 then shaReg (shaPad l) ((shaPad l).length / 64) (i / 4) >>> UInt32.ofNat (24 - 8 * (i % 4)) else 0).toUInt8
theorem shaPad_len (l : List UInt8) : (shaPad l).length = l.length + 1 + shaZ l.length + 8 := by
  simp only [shaPad, List.length_append, List.length_cons, List.length_replicate, List.length_map, List.length_range]; omega
theorem Hp.opt2 {S : List Nat} {w0 w : World} {L : List Own} (h : Hp S w0 w L) (i j : Nat) {b : Nat} {t t2 : TypeId} {cs cs2 : Array Value} {o : Option Nat} (hi : L[i]? = some (some b, t, cs)) (hj : L[j]? = some (o, t2, cs2)) (hij : i ≠ j) : ∀ x, o = some x → Blk w x t2 cs2 ∧ x ≠ b := fun x hx => by
  subst hx
  exact ⟨h.blk j hj, h.other hi hj hij rfl⟩
theorem OwnD.rest0 : OwnD none 0 0 0 #[] (restL []) := OwnD.start
theorem shaSum_calls (bh : Nat) (v : Value) (l : List UInt8) (w : World) (hT : Tabs w) (hb : Blk w bh 127 (hashL l v)) (hr : Sl w v (restL l)) (hm : l.length ≤ 140737488350000) :
    Ret Tryd.prog 70 #[PT bh 0] w fun v' w' => v' = .agg (arr8 32 (shaD l)) ∧ Chg [] w w' := by
 unfold hashL at hb
 have hrl := restL_len l
 have hz2 : shaZ l.length = (120 - (l.length + 1) % 64) % 64 := rfl
 have hpl := shaPad_len l
 refine Ret.enter Tryd.func70 rfl ?_
 simp only [Tryd.ntmps70, fe, Nat.reduceAdd, Nat.reduceSub]
 have hH := Hp.start [] w
 refine wp_seq_k ?_
 intro K1 hK1
 refine wrt [.x 0] ?_
 refine plan_alloc rfl rfl hH zc96 ?_
 clear hH
 intro b2 w3 hH
 (try simp only [nf, nh, Value.cells, arrB_set] at hH ⊢)
 refine plan_nil hH ?_
 clear hH
 intro w4 hH
 refine hK1 _ _ ?_
 (try clear hK1 K1)
 refine wp_seq_k ?_
 intro K5 hK5
 refine wp_seq_k ?_
 intro K6 hK6
 refine wrt [.p 0, .p 1] ?_
 refine pm ?_;simp only [nf]
 refine pp rfl rfl (pr_bin rfl rfl (bin_eql_pn Tryd.underlying119)) ?_;simp only [nf]
 refine plan_nil hH ?_
 clear hH
 intro w7 hH
 refine hK6 _ _ ?_
 (try clear hK6 K6)
 refine wp_cond_false rfl ?_
 refine wp_skip ?_
 refine hK5 _ _ ?_
 (try clear hK5 K5)
 refine wp_seq_k ?_
 intro K8 hK8
 refine wrt [.x 0, .p 1, .p 2, .p 3, .q 4, .e 5, .x 6, .e 7, .p 8] ?_
 refine plan_buildSlice rfl rfl hH Tryd.underlying22 (by rfl) (bs0 ) ?_
 clear hH
 intro b9 w10 hH
 (try simp only [nf, nh, Value.cells, arrB_set] at hH ⊢)
 refine pm ?_;simp only [nf]
 refine pp rfl rfl (pr_nilCheck rfl) ?_;simp only [nf]
 refine pp rfl rfl (pr_fieldAddr 8 rfl Tryd.underlying127 rfl rfl sz22) ?_;simp only [nf]
 refine pq rfl rfl (qr_load1 rfl Tryd.underlying22 rfl ((hH.chg.nil_blk hb).cell (by first | exact hashC_rest | exact hashC_n))) ?_;simp only [nf]
 refine plan_append 1 rfl rfl hH rfl (OwnC.of_bytes rfl) (fun w' hH => ((hr.chg hH.chg)).src) rfl rfl Tryd.underlying22 Tryd.underlying22 (.inl ⟨_, rfl⟩) sz5 bz5 ze5 rfl (by first | omega | (simp <;> omega)) (by first | omega | (simp <;> omega)) ?_
 clear hH
 intro o11 cap12 cs13 w14 hO15 hH
 (try simp only [nf] at hH ⊢)
 (try simp only [nf, nh, Value.cells, arrB_set] at hH ⊢)
 try rw [← List.map_append] at hO15
 (try simp only [Nat.zero_add, List.nil_append, List.length_nil] at hO15 ⊢)
 refine plan_buildSlice rfl rfl hH Tryd.underlying22 (by rfl) (bs1 128) ?_
 clear hH
 intro b16 w17 hH
 (try simp only [nf, nh, Value.cells, arrB_set] at hH ⊢)
 refine plan_append 1 rfl rfl hH rfl hO15 (fun w' hH => ((OwnC.sl hH 2 rfl (OwnC.of_bytes rfl))).src) rfl rfl Tryd.underlying22 Tryd.underlying22 (.inl ⟨_, rfl⟩) sz5 bz5 ze5 rfl (by first | omega | (simp <;> omega)) (by first | omega | (simp <;> omega)) ?_
 clear hH
 intro o18 cap19 cs20 w21 hO22 hH
 (try simp only [nf] at hH ⊢)
 (try simp only [nf, nh, Value.cells, arrB_set] at hH ⊢)
 try rw [← List.map_append] at hO22
 (try simp only [Nat.zero_add, List.nil_append, List.length_nil] at hO22 ⊢)
 refine pa ?_;simp only [nf]
 refine plan_nil hH ?_
 clear hH
 intro w23 hH
 refine hK8 _ _ ?_
 (try clear hK8 K8)
 refine wp_seq_k ?_
 intro K24 hK24
 refine wp_block ?_
 obtain ⟨kc25, hkc26, hN⟩ := hH.name 0 rfl
 replace hH := hN; clear hN; simp only [List.set_cons_zero, List.set_cons_succ] at hH
 refine wp_loopT [3] [20, 21, 22, 23, 24, 25, 26] (fun (n27 : Nat) (vs : List Value) (w' : World) => ∃ (q : Nat) (o : Option Nat) (c : Nat) (cs : Array Value), vs = [own o ((restL l).length + 1 + q) c] ∧ Hp [] w w' [(some b2, 96, kc25), (o, 5, cs)] ∧ n27 = shaZ l.length - q ∧ q ≤ shaZ l.length ∧ OwnC o ((restL l).length + 1 + q) c 1 cs ((restL l ++ [128] ++ List.replicate q 0).map V8)) (shaZ l.length - 0) (by kernel_rfl) ?_ ?_
 ·
  simp only [ga]
  refine ⟨0, o18, cap19, cs20, rfl, ?_, rfl, ?_, ?_⟩
  ·
   exact hH.take 2
  · first | omega | (omega)
  · first | omega | (rw [List.replicate_zero, List.append_nil]; exact hO22)
 clear hH
 intro n27 vs28 w29 hR30 d0
 obtain ⟨q, o, c, cs, rfl, hH, hn31, hf32, hO⟩ := hR30
 simp only [putAll, putD, List.set_cons_zero, List.set_cons_succ, Nat.zero_add, Nat.reduceAdd]
 subst hkc26
 refine wp_seq_k ?_
 intro K33 hK33
 refine wp_seq_k ?_
 intro K34 hK34
 refine wrt [.p 0, .p 1, .p 2, .p 3] ?_
 refine pm ?_;simp only [nf]
 refine pp rfl rfl (pr_len_sl rfl Tryd.underlying22) ?_;simp only [nf]
 refine pp rfl rfl (pr_bin rfl rfl (by first | exact bin_rem_n (n := 64) (by omega))) ?_;simp only [nf]
 refine pp rfl rfl (pr_bin rfl rfl (by first | exact bin_neq_n (n := 56)  | exact bin_neq_i)) ?_;simp only [nf]
 refine plan_nil hH ?_
 clear hH
 intro w35 hH
 refine hK34 _ _ ?_
 (try clear hK34 K34)
 refine wp_cond_split rfl (fun hc36 => ?_) (fun hc36 => ?_)
 ·
  (try simp only [cnd] at hc36)
  refine wp_skip ?_
  refine hK33 _ _ ?_
  (try clear hK33 K33)
  refine wp_block ?_
  refine wrt [.p 0, .x 1, .e 2, .p 3] ?_
  refine pm ?_;simp only [nf]
  refine plan_buildSlice rfl rfl hH Tryd.underlying22 (by rfl) (bs1 0) ?_
  clear hH
  intro b37 w38 hH
  (try simp only [nf, nh, Value.cells, arrB_set] at hH ⊢)
  refine plan_append 1 rfl rfl hH rfl hO (fun w' hH => ((OwnC.sl hH 2 rfl (OwnC.of_bytes rfl))).src) rfl rfl Tryd.underlying22 Tryd.underlying22 (.inl ⟨_, rfl⟩) sz5 bz5 ze5 rfl (by first | omega | (simp <;> omega)) (by first | omega | (simp <;> omega)) ?_
  clear hH
  intro o39 cap40 cs41 w42 hO43 hH
  (try simp only [nf] at hH ⊢)
  (try simp only [nf, nh, Value.cells, arrB_set] at hH ⊢)
  try rw [← List.map_append] at hO43
  (try simp only [Nat.zero_add, List.nil_append, List.length_nil] at hO43 ⊢)
  refine pa ?_;simp only [nf]
  refine plan_nil hH ?_
  clear hH
  intro w44 hH
  (try simp only [Exit.then, Exit.inBlock, ↓reduceIte, Nat.reduceEqDiff])
  refine ⟨shaZ l.length - (q + 1), ?_, _, rfl, by kernel_rfl, ?_⟩
  · first | omega | (omega)
  simp only [ga]
  refine ⟨q + 1, o39, cap40, cs41, rfl, ?_, rfl, ?_, ?_⟩
  ·
   exact hH.take 2
  · first | omega | (omega)
  · first | omega | (rw [List.replicate_succ', ← List.append_assoc]; exact hO43)
 ·
  (try simp only [cnd] at hc36)
  obtain rfl : q = shaZ l.length := by omega
  refine wp_exit ?_
  (try simp only [Exit.then, Exit.inBlock, ↓reduceIte, Nat.reduceEqDiff])
  refine hK24 _ _ ?_
  (try clear hK24 K24)
  refine wp_seq_k ?_
  intro K45 hK45
  refine wp_seq_k ?_
  intro K46 hK46
  refine wrt [.p 0] ?_
  refine pka 56 ?_;simp only [nf]
  refine plan_nil hH ?_
  clear hH
  intro w47 hH
  refine hK46 _ _ ?_
  (try clear hK46 K46)
  refine wp_block ?_
  obtain ⟨kc48, hkc49, hN⟩ := hH.name 0 rfl
  replace hH := hN; clear hN; simp only [List.set_cons_zero, List.set_cons_succ] at hH
  refine wp_loopT [3, 4] [27, 28, 29, 30, 31, 32, 33, 34, 35, 36, 37, 38, 39, 40, 41, 42] (fun (n50 : Nat) (vs : List Value) (w' : World) => ∃ (j : Nat) (o : Option Nat) (c : Nat) (cs : Array Value), vs = [own o ((restL l).length + 1 + shaZ l.length + j) c, I64 ((56 : Int) - 8 * (j : Nat))] ∧ Hp [] w w' [(some b2, 96, kc48), (o, 5, cs)] ∧ n50 = 8 - j ∧ j ≤ 8 ∧ OwnC o ((restL l).length + 1 + shaZ l.length + j) c 1 cs ((restL l ++ [128] ++ List.replicate (shaZ l.length) 0 ++ (List.range j).map (shaN l.length)).map V8)) (8 - 0) (by kernel_rfl) ?_ ?_
  ·
   simp only [ga]
   refine ⟨0, o, c, cs, rfl, ?_, rfl, ?_, ?_⟩
   ·
    exact hH.take 2
   · first | omega | (omega)
   · first | omega | (rw [List.range_zero, List.map_nil, List.append_nil]; exact hO)
  clear hH
  intro n50 vs51 w52 hR53 d1
  obtain ⟨j, o, c, cs, rfl, hH, hn54, hf55, hO⟩ := hR53
  simp only [putAll, putD, List.set_cons_zero, List.set_cons_succ, Nat.zero_add, Nat.reduceAdd]
  subst hkc49
  refine wp_seq_k ?_
  intro K56 hK56
  refine wp_seq_k ?_
  intro K57 hK57
  refine wrt [.p 0, .p 1] ?_
  refine pm ?_;simp only [nf]
  refine pp rfl rfl (pr_bin rfl rfl (by first | exact bin_geq_n (n := 0)  | exact bin_geq_i)) ?_;simp only [nf]
  refine plan_nil hH ?_
  clear hH
  intro w58 hH
  refine hK57 _ _ ?_
  (try clear hK57 K57)
  refine wp_cond_split rfl (fun hc59 => ?_) (fun hc59 => ?_)
  ·
   (try simp only [cnd] at hc59)
   simp only [show ((56 : Int) - 8 * (j : Nat)) = ((56 - 8 * j : Nat) : Int) by omega]
   refine wp_skip ?_
   refine hK56 _ _ ?_
   (try clear hK56 K56)
   refine wp_seq_k ?_
   intro K60 hK60
   refine wp_block ?_
   refine wrt [.p 0, .p 1, .p 2, .p 3, .q 4, .p 5, .p 6, .p 7, .p 8, .p 9, .x 10, .e 11, .p 12] ?_
   refine pm (pm ?_);simp only [nf]
   refine pp rfl rfl (pr_nilCheck rfl) ?_;simp only [nf]
   refine pp rfl rfl (pr_fieldAddr 9 rfl Tryd.underlying127 rfl rfl sz3) ?_;simp only [nf]
   refine pq rfl rfl (qr_load1 rfl Tryd.underlying3 rfl ((hH.chg.nil_blk hb).cell (by first | exact hashC_rest | exact hashC_n))) ?_;simp only [nf]
   refine pp rfl rfl (pr_conv rfl (by first | exact cnv_n_u64 Tryd.underlying3 Tryd.underlying49 | exact cnv_i_u64 Tryd.underlying3 Tryd.underlying49)) ?_;simp only [nf]
   refine pp rfl rfl (pr_bin rfl rfl (bin_shlc_u64 3 3 (by decide) rfl _)) ?_;simp only [nf]
   refine pm ?_;simp only [nf]
   refine pp rfl rfl (pr_bin rfl rfl (bin_shr_u64 _ _ _)) ?_;simp only [nf]
   refine pp rfl rfl (pr_conv rfl (cnv_u64_u8 _ Tryd.underlying49 Tryd.underlying5)) ?_;simp only [nf]
   refine plan_buildSlice rfl rfl hH Tryd.underlying22 (by rfl) (bs1 _) ?_
   clear hH
   intro b61 w62 hH
   (try simp only [nf, nh, Value.cells, arrB_set] at hH ⊢)
   refine plan_append 1 rfl rfl hH rfl hO (fun w' hH => ((OwnC.sl hH 2 rfl (OwnC.of_bytes rfl))).src) rfl rfl Tryd.underlying22 Tryd.underlying22 (.inl ⟨_, rfl⟩) sz5 bz5 ze5 rfl (by first | omega | (simp <;> omega)) (by first | omega | (simp <;> omega)) ?_
   clear hH
   intro o63 cap64 cs65 w66 hO67 hH
   (try simp only [nf] at hH ⊢)
   (try simp only [nf, nh, Value.cells, arrB_set] at hH ⊢)
   try rw [← List.map_append] at hO67
   (try simp only [Nat.zero_add, List.nil_append, List.length_nil] at hO67 ⊢)
   refine pa ?_;simp only [nf]
   refine plan_nil hH ?_
   clear hH
   intro w68 hH
   refine hK60 _ _ ?_
   (try clear hK60 K60)
   refine wrt [.p 0, .p 1, .p 2] ?_
   refine pm ?_;simp only [nf]
   refine pp rfl rfl (pr_bin rfl rfl (by first | exact bin_sub_n (n := 8) (by omega) (by omega) | exact bin_sub_i (by omega) (by omega))) ?_;simp only [nf]
   refine pa ?_;simp only [nf]
   refine plan_nil hH ?_
   clear hH
   intro w69 hH
   (try simp only [Exit.then, Exit.inBlock, ↓reduceIte, Nat.reduceEqDiff])
   rw [show (((56 - 8 * j : Nat) : Int) - 8) = 56 - 8 * ((j + 1 : Nat) : Int) by omega]
   refine ⟨8 - (j + 1), ?_, _, rfl, by kernel_rfl, ?_⟩
   · first | omega | (omega)
   simp only [ga]
   refine ⟨j + 1, o63, cap64, cs65, rfl, ?_, rfl, ?_, ?_⟩
   ·
    exact hH.take 2
   · first | omega | (omega)
   · first | omega | (rw [List.range_succ, List.map_append (f := shaN l.length), ← List.append_assoc]; exact hO67)
  ·
   (try simp only [cnd] at hc59)
   obtain rfl : j = 8 := by omega
   refine wp_exit ?_
   (try simp only [Exit.then, Exit.inBlock, ↓reduceIte, Nat.reduceEqDiff])
   refine hK45 _ _ ?_
   (try clear hK45 K45)
   refine wp_seq_k ?_
   intro K70 hK70
   refine wrt [.p 0, .p 1, .p 2, .q 3, .x 4, .e 5] ?_
   refine pm ?_;simp only [nf]
   refine pp rfl rfl (pr_nilCheck rfl) ?_;simp only [nf]
   refine pp rfl rfl (pr_fieldAddr 0 rfl Tryd.underlying127 rfl rfl sz125) ?_;simp only [nf]
   refine pq rfl rfl (qr_loadE _ rfl (hH.chg.nil_blk hb) Tryd.underlying125 rfl sz125 (by rw [hashC_size]; omega) hashC_ext) ?_;simp only [nf]
   refine plan_alloc rfl rfl hH zc125 ?_
   clear hH
   intro b71 w72 hH
   (try simp only [nf, nh, Value.cells, arrB_set] at hH ⊢)
   refine plan_storeW 2 rfl rfl hH rfl rfl rfl one_arr32 sz125 (by simp) (by simp) ?_
   clear hH
   intro w73 hH
   (try simp only [nf, nh, Value.cells, arrB_set] at hH ⊢)
   refine plan_nil hH ?_
   clear hH
   intro w74 hH
   refine hK70 _ _ ?_
   (try clear hK70 K70)
   refine wp_seq_k ?_
   intro K75 hK75
   refine wp_block ?_
   obtain ⟨kc76, hkc77, hN⟩ := hH.name 0 rfl
   replace hH := hN; clear hN; simp only [List.set_cons_zero, List.set_cons_succ] at hH
   refine wp_loopT [3] [47, 48, 49, 50, 51, 52, 53, 54] (fun (n78 : Nat) (vs : List Value) (w' : World) => ∃ (k f m c : Nat), vs = [ownO o f m c] ∧ Hp [] w w' [(some b2, 96, kc76), (o, 5, cs), (some b71, 125, arr32 8 (shaReg (shaPad l) k))] ∧ n78 = m ∧ 64 * k ≤ (shaPad l).length ∧ OwnD o f m c cs ((shaPad l).drop (64 * k))) ((restL l).length + 1 + shaZ l.length + 8) (by kernel_rfl) ?_ ?_
   ·
    simp only [ga]
    refine ⟨l.length / 64, 0, (restL l).length + 1 + shaZ l.length + 8, c, rfl, ?_, rfl, ?_, ?_⟩
    ·
     unfold shaPad
     rw [shaReg_app _ _ _ (by omega)]
     exact hH
    · first | omega | (omega)
    · first | omega | (unfold shaPad; rw [restL_app]; have h := OwnC.d hO; simp only [List.append_assoc, List.cons_append, List.nil_append] at h ⊢; exact h)
   clear hH
   intro n78 vs79 w80 hR81 d2
   obtain ⟨k, f, m, c, rfl, hH, hn82, hf83, hD⟩ := hR81
   simp only [putAll, putD, List.set_cons_zero, List.set_cons_succ, Nat.zero_add, Nat.reduceAdd]
   have hml := hD.len
   rw [List.length_drop] at hml
   subst hkc77
   refine wp_seq_k ?_
   intro K84 hK84
   refine wp_seq_k ?_
   intro K85 hK85
   refine wrt [.p 0, .p 1, .p 2] ?_
   refine pm ?_;simp only [nf]
   refine pp rfl rfl (pr_len_sl rfl Tryd.underlying22) ?_;simp only [nf]
   refine pp rfl rfl (pr_bin rfl rfl (by first | exact bin_gtr_n (n := 0)  | exact bin_gtr_i)) ?_;simp only [nf]
   refine plan_nil hH ?_
   clear hH
   intro w86 hH
   refine hK85 _ _ ?_
   (try clear hK85 K85)
   refine wp_cond_split rfl (fun hc87 => ?_) (fun hc87 => ?_)
   ·
    (try simp only [cnd] at hc87)
    refine wp_skip ?_
    refine hK84 _ _ ?_
    (try clear hK84 K84)
    refine wp_seq_k ?_
    intro K88 hK88
    refine wp_block ?_
    refine wrt [.q 0, .p 1, .q 2, .e 3] ?_
    refine pq rfl rfl (qr_loadW rfl (hH.blk 2 rfl) Tryd.underlying125 rfl sz125 (by simp)) ?_;simp only [nf]
    refine pm ?_;simp only [nf]
    refine pq rfl rfl (qr_call cf76 (fun w' hw => shamix_calls _ _ _ w' (hT.grow (hH.chg.trans hw)) ((OwnD.sl hH 1 rfl hD).chg hw) (by first | omega | (simp <;> omega))) rfl) ?_;simp only [nf]
    refine plan_storeW 2 rfl rfl hH rfl rfl rfl one_arr32 sz125 (by simp) (by simp) ?_
    clear hH
    intro w89 hH
    (try simp only [nf, nh, Value.cells, arrB_set] at hH ⊢)
    refine plan_nil hH ?_
    clear hH
    intro w90 hH
    refine hK88 _ _ ?_
    (try clear hK88 K88)
    refine wrt [.p 0, .p 1, .p 2] ?_
    refine pm ?_;simp only [nf]
    refine pp rfl rfl (pr_slice_D (lo := 64) rfl rfl Tryd.underlying22 sz5 (by omega)) ?_;simp only [nf]
    refine pa ?_;simp only [nf]
    refine plan_nil hH ?_
    clear hH
    intro w91 hH
    (try simp only [Exit.then, Exit.inBlock, ↓reduceIte, Nat.reduceEqDiff])
    refine ⟨m - 64, ?_, _, rfl, by kernel_rfl, ?_⟩
    · first | omega | (omega)
    simp only [ga]
    refine ⟨k + 1, cutO f 64 c, m - 64, c - 64, rfl, ?_, rfl, ?_, ?_⟩
    ·
     rw [shaReg_succ] at hH
     exact hH
    · first | omega | (omega)
    · first | omega | (exact OwnD.next hD (by omega))
   ·
    (try simp only [cnd] at hc87)
    obtain rfl : k = (shaPad l).length / 64 := by omega
    refine wp_exit ?_
    (try simp only [Exit.then, Exit.inBlock, ↓reduceIte, Nat.reduceEqDiff])
    refine hK75 _ _ ?_
    (try clear hK75 K75)
    refine wp_seq_k ?_
    intro K92 hK92
    refine wrt [.x 0] ?_
    refine plan_alloc rfl rfl hH zc96 ?_
    clear hH
    intro b93 w94 hH
    (try simp only [nf, nh, Value.cells, arrB_set] at hH ⊢)
    refine plan_nil hH ?_
    clear hH
    intro w95 hH
    refine hK92 _ _ ?_
    (try clear hK92 K92)
    refine wp_seq_k ?_
    intro K96 hK96
    refine wp_seq_k ?_
    intro K97 hK97
    refine wrt [.p 0] ?_
    refine pk 0 ?_;simp only [nf]
    refine plan_nil hH ?_
    clear hH
    intro w98 hH
    refine hK97 _ _ ?_
    (try clear hK97 K97)
    refine wp_block ?_
    obtain ⟨kc99, hkc100, hN⟩ := hH.name 0 rfl
    replace hH := hN; clear hN; simp only [List.set_cons_zero, List.set_cons_succ] at hH
    refine wp_loopT [55] [7, 56, 57, 58, 59, 60, 61, 62, 63, 64, 65, 66, 67, 68, 69, 70] (fun (n101 : Nat) (vs : List Value) (w' : World) => ∃ (i : Nat), vs = [I64 (i : Nat)] ∧ Hp [] w w' [(some b2, 96, kc99), (o, 5, cs), (some b71, 125, arr32 8 (shaReg (shaPad l) ((shaPad l).length / 64))), (some b93, 96, arr8 32 fun j => if j < i then shaD l j else 0)] ∧ n101 = 32 - i ∧ i ≤ 32) (32 - 0) (by kernel_rfl) ?_ ?_
    ·
     simp only [ga]
     refine ⟨0, rfl, ?_, rfl, ?_⟩
     ·
      exact hH.say 3 rfl (arr8_congr fun j hj => by rw [if_neg (by omega)])
     · first | omega | (omega)
    clear hH
    intro n101 vs102 w103 hR104 d3
    obtain ⟨i, rfl, hH, hn105, hf106⟩ := hR104
    simp only [putAll, putD, List.set_cons_zero, List.set_cons_succ, Nat.zero_add, Nat.reduceAdd]
    subst hkc100
    refine wp_seq_k ?_
    intro K107 hK107
    refine wrt [.p 0] ?_
    refine pp rfl rfl (pr_bin rfl rfl (by first | exact bin_lss_n (n := 32)  | exact bin_lss_i)) ?_;simp only [nf]
    refine plan_nil hH ?_
    clear hH
    intro w108 hH
    refine hK107 _ _ ?_
    (try clear hK107 K107)
    refine wp_seq_k ?_
    intro K109 hK109
    refine wp_cond_split rfl (fun hc110 => ?_) (fun hc110 => ?_)
    ·
     (try simp only [cnd] at hc110)
     refine wp_skip ?_
     refine hK109 _ _ ?_
     (try clear hK109 K109)
     refine wp_seq_k ?_
     intro K111 hK111
     refine wp_block ?_
     refine wp_seq_k ?_
     intro K112 hK112
     refine wrt [.p 0, .p 1] ?_
     refine pm (pa ?_);simp only [nf]
     refine plan_nil hH ?_
     clear hH
     intro w113 hH
     refine hK112 _ _ ?_
     (try clear hK112 K112)
     refine wrt [.p 0, .p 1, .p 2, .p 3, .q 4, .p 5, .p 6, .p 7, .p 8, .p 9, .p 10, .p 11, .e 12] ?_
     refine pm (pm ?_);simp only [nf]
     refine pp rfl rfl (pr_bin rfl rfl (by first | exact bin_quo_n (n := 4) (by omega) (by omega))) ?_;simp only [nf]
     refine pp rfl rfl (pr_idxA1 rfl rfl Tryd.underlying125 sz113 (by omega)) ?_;simp only [nf]
     refine pq rfl rfl (qr_load1 rfl Tryd.underlying113 rfl ((hH.blk 2 rfl).cell (arr32_get (by omega)))) ?_;simp only [nf]
     refine pm ?_;simp only [nf]
     refine pp rfl rfl (pr_bin rfl rfl (by first | exact bin_rem_n (n := 4) (by omega))) ?_;simp only [nf]
     refine pp rfl rfl (pr_bin rfl rfl (by first | exact bin_mul_n (m := 8) (by omega) | exact bin_mul_i (by omega) (by omega))) ?_;simp only [nf]
     refine pp rfl rfl (pr_bin rfl rfl (by first | exact bin_sub_n (m := 24) (by omega) (by omega) | exact bin_sub_i (by omega) (by omega))) ?_;simp only [nf]
     refine pp rfl rfl (pr_bin rfl rfl (bin_shr_u32 _ _ _)) ?_;simp only [nf]
     refine pp rfl rfl (pr_conv rfl (cnv_u32_u8 _ Tryd.underlying113 Tryd.underlying5)) ?_;simp only [nf]
     refine pp rfl rfl (pr_idxA1 rfl rfl Tryd.underlying96 sz5 (by omega)) ?_;simp only [nf]
     refine plan_store1 3 rfl rfl hH rfl rfl rfl rfl sz5 (by simp <;> omega) ?_
     clear hH
     intro w114 hH
     (try simp only [nf, nh, Value.cells, arrB_set] at hH ⊢)
     refine plan_nil hH ?_
     clear hH
     intro w115 hH
     refine hK111 _ _ ?_
     (try clear hK111 K111)
     refine wrt [.p 0, .p 1] ?_
     refine pp rfl rfl (pr_bin rfl rfl (by first | exact bin_add_n (n := 1) (by omega) | exact bin_add_i (by omega) (by omega))) ?_;simp only [nf]
     refine pm ?_;simp only [nf]
     refine plan_nil hH ?_
     clear hH
     intro w116 hH
     (try simp only [Exit.then, Exit.inBlock, ↓reduceIte, Nat.reduceEqDiff])
     refine ⟨32 - (i + 1), ?_, _, rfl, by kernel_rfl, ?_⟩
     · first | omega | (omega)
     simp only [ga]
     refine ⟨i + 1, rfl, ?_, rfl, ?_⟩
     ·
      exact hH.say 3 rfl (arr8_congr fun j hj => upd_lt (g := shaD l) (z := fun _ => 0) rfl j)
     · first | omega | (omega)
    ·
     (try simp only [cnd] at hc110)
     obtain rfl : i = 32 := by omega
     replace hH := hH.say 3 rfl (arr8_congr (g := shaD l) fun j hj => if_pos hj)
     simp only [List.set_cons_zero, List.set_cons_succ] at hH
     refine wp_exit ?_
     (try simp only [Exit.then, Exit.inBlock, ↓reduceIte, Nat.reduceEqDiff])
     refine hK96 _ _ ?_
     (try clear hK96 K96)
     refine wp_seq_k ?_
     intro K117 hK117
     refine wrt [.q 0, .e 1] ?_
     refine pq rfl rfl (qr_loadW rfl (hH.blk 3 rfl) Tryd.underlying96 rfl sz96 (by simp)) ?_;simp only [nf]
     refine plan_storeW 0 rfl rfl hH rfl rfl rfl one_arr8 sz96 (by simp) (by simp) ?_
     clear hH
     intro w118 hH
     (try simp only [nf, nh, Value.cells, arrB_set] at hH ⊢)
     refine plan_nil hH ?_
     clear hH
     intro w119 hH
     refine hK117 _ _ ?_
     (try clear hK117 K117)
     refine wp_ret ?_
     (try simp only [Exit.then, Exit.inBlock, ↓reduceIte, Nat.reduceEqDiff])
     refine BP.retc rfl rfl (hH.blk 0 rfl) Tryd.underlying96 rfl sz96 (by simp) ?_
     exact ⟨rfl, hH.chg⟩
def macK (kl : List UInt8) (i : Nat) : UInt8 := kl.getD i 0
def macI (kl : List UInt8) (n : Nat) : List UInt8 := (List.range n).map fun i => macK kl i ^^^ 54
def macO (kl : List UInt8) (n : Nat) : List UInt8 := (List.range n).map fun i => macK kl i ^^^ 92
@[simp] theorem macI_len (kl : List UInt8) (n : Nat) : (macI kl n).length = n := by simp [macI]
@[simp] theorem macO_len (kl : List UInt8) (n : Nat) : (macO kl n).length = n := by simp [macO]
theorem macI_succ (kl : List UInt8) (n : Nat) : macI kl n ++ [macK kl n ^^^ 54] = macI kl (n + 1) := by simp [macI, List.range_succ]
theorem macO_succ (kl : List UInt8) (n : Nat) : macO kl n ++ [macK kl n ^^^ 92] = macO kl (n + 1) := by simp [macO, List.range_succ]
def macD (kl bl : List UInt8) (i : Nat) : UInt8 := shaD (macO kl 64 ++ (List.range 32).map (shaD (macI kl 64 ++ bl))) i
theorem copy_key (l : List UInt8) (hl : l.length ≤ 64) (j : Nat) : (if 0 ≤ j ∧ j < min l.length 64 then l.getD (j - 0) 0 else 0) = macK l j := by
  unfold macK
  by_cases h : j < l.length
  · rw [if_pos ⟨Nat.zero_le _, by omega⟩, Nat.sub_zero]
  · rw [if_neg (by omega)]; simp [List.getD, List.getElem?_eq_none (Nat.le_of_not_lt h)]
theorem mac_calls (kv bv : Value) (kl bl : List UInt8) (w : World) (hT : Tabs w) (hk : Sl w kv kl) (hb : Sl w bv bl) (h64 : kl.length ≤ 64) (hm : bl.length ≤ 140737488340000) :
    Ret Tryd.prog 51 #[kv, bv] w fun v' w' => v' = .agg (arr8 32 (macD kl bl)) ∧ Chg [] w w' := by
 refine Ret.enter Tryd.func51 rfl ?_
 simp only [Tryd.ntmps51, fe, Nat.reduceAdd, Nat.reduceSub]
 have hH := Hp.start [] w
 refine wp_seq_k ?_
 intro K1 hK1
 refine wrt [.x 0] ?_
 refine plan_alloc rfl rfl hH zc96 ?_
 clear hH
 intro b2 w3 hH
 (try simp only [nf, nh, Value.cells, arrB_set] at hH ⊢)
 refine plan_nil hH ?_
 clear hH
 intro w4 hH
 refine hK1 _ _ ?_
 (try clear hK1 K1)
 refine wp_seq_k ?_
 intro K5 hK5
 refine wrt [.x 0] ?_
 refine plan_alloc rfl rfl hH zc117 ?_
 clear hH
 intro b6 w7 hH
 (try simp only [nf, nh, Value.cells, arrB_set] at hH ⊢)
 refine plan_nil hH ?_
 clear hH
 intro w8 hH
 refine hK5 _ _ ?_
 (try clear hK5 K5)
 refine wp_seq_k ?_
 intro K9 hK9
 refine wp_seq_k ?_
 intro K10 hK10
 refine wrt [.p 0, .p 1, .p 2] ?_
 refine pm ?_;simp only [nf]
 refine pp rfl rfl (pr_len_Sl (hk.chg hH.chg) rfl Tryd.underlying22) ?_;simp only [nf]
 refine pp rfl rfl (pr_bin rfl rfl (by first | exact bin_gtr_n (n := 64)  | exact bin_gtr_i)) ?_;simp only [nf]
 refine plan_nil hH ?_
 clear hH
 intro w11 hH
 refine hK10 _ _ ?_
 (try clear hK10 K10)
 refine wp_cond_false (by show BV _ = _; exact congrArg BV (decide_eq_false (by omega))) ?_
 refine wrt [.p 0, .p 1, .e 2] ?_
 refine pp rfl rfl (pr_slice_arr_all rfl Tryd.underlying117 sz5) ?_;simp only [nf]
 (try simp only [Nat.mul_one, Nat.zero_add, Nat.add_sub_cancel_left])
 refine pm ?_;simp only [nf]
 refine plan_copy 1 rfl rfl hH rfl (fun w' hH => ((hk.chg hH.chg)).csrc) rfl rfl Tryd.underlying22 sz5 (by omega) ?_
 clear hH
 intro w12 hH
 (try simp only [nf, nh, Value.cells, arrB_set] at hH ⊢)
 refine plan_nil hH ?_
 clear hH
 intro w13 hH
 replace hH := hH.say 1 rfl (arr8_congr (g := macK kl) fun j hj => copy_key kl h64 j)
 simp only [List.set_cons_zero, List.set_cons_succ] at hH
 refine hK9 _ _ ?_
 (try clear hK9 K9)
 refine wp_seq_k ?_
 intro K14 hK14
 refine wrt [.x 0, .x 1, .p 2, .p 3] ?_
 refine plan_callx rfl rfl hH cf68 (fun w' hH => shaNew_calls w' (hT.grow hH.chg)) rfl (fun _ _ _ h => h.choose_spec.2.1) ?_
 clear hH
 intro w15 v16 w17 hH hp18
 obtain ⟨b19, rfl, hg, hfr, hbk⟩ := hp18
 replace hH := (hH.callnew hg hbk hfr).addnone 5 #[]
 clear hg hfr hbk
 (try simp only [nf, nh, Value.cells, arrB_set] at hH ⊢)
 (try simp only [nf])
 refine plan_callx rfl rfl hH cf68 (fun w' hH => shaNew_calls w' (hT.grow hH.chg)) rfl (fun _ _ _ h => h.choose_spec.2.1) ?_
 clear hH
 intro w20 v21 w22 hH hp23
 obtain ⟨b24, rfl, hg, hfr, hbk⟩ := hp23
 replace hH := (hH.callnew hg hbk hfr).addnone 5 #[]
 clear hg hfr hbk
 (try simp only [nf, nh, Value.cells, arrB_set] at hH ⊢)
 (try simp only [nf])
 refine pa (pa ?_);simp only [nf]
 refine plan_nil hH ?_
 clear hH
 intro w25 hH
 refine hK14 _ _ ?_
 (try clear hK14 K14)
 refine wp_seq_k ?_
 intro K26 hK26
 refine wp_seq_k ?_
 intro K27 hK27
 refine wrt [.q 0, .p 1] ?_
 refine pq rfl rfl (qr_loadW rfl (hH.blk 1 rfl) Tryd.underlying117 rfl sz117 (by simp)) ?_;simp only [nf]
 refine pk 0 ?_;simp only [nf]
 refine plan_nil hH ?_
 clear hH
 intro w28 hH
 refine hK27 _ _ ?_
 (try clear hK27 K27)
 refine wp_block ?_
 obtain ⟨kc29, hkc30, hN⟩ := hH.name 0 rfl
 replace hH := hN; clear hN; simp only [List.set_cons_zero, List.set_cons_succ] at hH
 obtain ⟨kc31, hkc32, hN⟩ := hH.name 1 rfl
 replace hH := hN; clear hN; simp only [List.set_cons_zero, List.set_cons_succ] at hH
 refine wp_loopT [26] [10, 27, 28, 29, 30, 31, 32, 33, 34, 35, 36, 37, 38, 39] (fun (n33 : Nat) (vs : List Value) (w' : World) => ∃ (i : Nat) (oa : Option Nat) (fa na ca : Nat) (sa : Array Value) (ob : Option Nat) (fb nb cb : Nat) (sb : Array Value), vs = [I64 (i : Nat)] ∧ Hp [] w w' [(some b2, 96, kc29), (some b6, 117, kc31), (some b19, 127, hashL (macI kl i) (ownO oa fa na ca)), (oa, 5, sa), (some b24, 127, hashL (macO kl i) (ownO ob fb nb cb)), (ob, 5, sb)] ∧ n33 = 64 - i ∧ i ≤ 64 ∧ OwnD oa fa na ca sa (restL (macI kl i)) ∧ OwnD ob fb nb cb sb (restL (macO kl i))) (64 - 0) (by kernel_rfl) ?_ ?_
 ·
  simp only [ga]
  refine ⟨0, none, 0, 0, 0, #[], none, 0, 0, 0, #[], rfl, ?_, rfl, ?_, ?_, ?_⟩
  ·
   exact hH
  · first | omega | (omega)
  · first | omega | (exact OwnD.rest0)
  · first | omega | (exact OwnD.rest0)
 clear hH
 intro n33 vs34 w35 hR36 d0
 obtain ⟨i, oa, fa, na, ca, sa, ob, fb, nb, cb, sb, rfl, hH, hn37, hf38, hOa, hOb⟩ := hR36
 simp only [putAll, putD, List.set_cons_zero, List.set_cons_succ, Nat.zero_add, Nat.reduceAdd]
 subst hkc30 hkc32
 refine wp_seq_k ?_
 intro K39 hK39
 refine wrt [.p 0] ?_
 refine pp rfl rfl (pr_bin rfl rfl (by first | exact bin_lss_n (n := 64)  | exact bin_lss_i)) ?_;simp only [nf]
 refine plan_nil hH ?_
 clear hH
 intro w40 hH
 refine hK39 _ _ ?_
 (try clear hK39 K39)
 refine wp_seq_k ?_
 intro K41 hK41
 refine wp_cond_split rfl (fun hc42 => ?_) (fun hc42 => ?_)
 ·
  (try simp only [cnd] at hc42)
  refine wp_skip ?_
  refine hK41 _ _ ?_
  (try clear hK41 K41)
  refine wp_seq_k ?_
  intro K43 hK43
  refine wp_block ?_
  refine wp_seq_k ?_
  intro K44 hK44
  refine wrt [.p 0, .p 1] ?_
  refine pp rfl rfl (pr_index_arr rfl rfl Tryd.underlying117 sz5 (notAgg Tryd.underlying5 rfl) (by first | omega | exact lt_u8 _) (arr8_get (by first | omega | exact lt_u8 _))) ?_;simp only [nf]
  refine pa ?_;simp only [nf]
  refine plan_nil hH ?_
  clear hH
  intro w45 hH
  refine hK44 _ _ ?_
  (try clear hK44 K44)
  refine wp_seq_k ?_
  intro K46 hK46
  refine wrt [.p 0, .p 1, .p 2, .x 3, .e 4] ?_
  refine pm (pm ?_);simp only [nf]
  refine pp rfl rfl (pr_bin rfl rfl (bin_xor_u8 _ 54)) ?_;simp only [nf]
  refine plan_buildSlice rfl rfl hH Tryd.underlying22 (by rfl) (bs1 _) ?_
  clear hH
  intro b47 w48 hH
  (try simp only [nf, nh, Value.cells, arrB_set] at hH ⊢)
  refine plan_calle rfl rfl hH cf69 (fun w' hH => shaWrite_calls _ _ _ _ _ _ _ _ _ w' (hT.grow hH.chg) (hH.no hT 2 3 rfl rfl (by decide)) (hH.no hT 2 3 rfl rfl (by decide)) (hH.blk 2 rfl) hOa (hH.opt2 2 3 rfl rfl (by decide)) (fun w2 hc => (OwnC.sl (hH.keep2 2 3 6 rfl rfl rfl (by decide) (by decide) hc) 0 rfl (OwnC.of_bytes rfl))) (by first | omega | (simp <;> omega))) rfl ?_
  clear hH
  intro w49 v50 w51 hH hp52
  obtain ⟨rfl, o53, f54, n55, c56, cs57, hg, hbk, hO58, hox⟩ := hp52
  replace hH := hH.callw2 2 3 rfl rfl (by decide) hg hbk hox
  clear hg hbk hox
  (try simp only [nf, nh, Value.cells, arrB_set] at hH ⊢)
  refine plan_nil hH ?_
  clear hH
  intro w59 hH
  refine hK46 _ _ ?_
  (try clear hK46 K46)
  refine wrt [.p 0, .p 1, .p 2, .x 3, .e 4] ?_
  refine pm (pm ?_);simp only [nf]
  refine pp rfl rfl (pr_bin rfl rfl (bin_xor_u8 _ 92)) ?_;simp only [nf]
  refine plan_buildSlice rfl rfl hH Tryd.underlying22 (by rfl) (bs1 _) ?_
  clear hH
  intro b60 w61 hH
  (try simp only [nf, nh, Value.cells, arrB_set] at hH ⊢)
  refine plan_calle rfl rfl hH cf69 (fun w' hH => shaWrite_calls _ _ _ _ _ _ _ _ _ w' (hT.grow hH.chg) (hH.no hT 4 5 rfl rfl (by decide)) (hH.no hT 4 5 rfl rfl (by decide)) (hH.blk 4 rfl) hOb (hH.opt2 4 5 rfl rfl (by decide)) (fun w2 hc => (OwnC.sl (hH.keep2 4 5 7 rfl rfl rfl (by decide) (by decide) hc) 0 rfl (OwnC.of_bytes rfl))) (by first | omega | (simp <;> omega))) rfl ?_
  clear hH
  intro w62 v63 w64 hH hp65
  obtain ⟨rfl, o66, f67, n68, c69, cs70, hg, hbk, hO71, hox⟩ := hp65
  replace hH := hH.callw2 4 5 rfl rfl (by decide) hg hbk hox
  clear hg hbk hox
  (try simp only [nf, nh, Value.cells, arrB_set] at hH ⊢)
  refine plan_nil hH ?_
  clear hH
  intro w72 hH
  refine hK43 _ _ ?_
  (try clear hK43 K43)
  refine wrt [.p 0, .p 1] ?_
  refine pp rfl rfl (pr_bin rfl rfl (by first | exact bin_add_n (n := 1) (by omega) | exact bin_add_i (by omega) (by omega))) ?_;simp only [nf]
  refine pm ?_;simp only [nf]
  refine plan_nil hH ?_
  clear hH
  intro w73 hH
  (try simp only [Exit.then, Exit.inBlock, ↓reduceIte, Nat.reduceEqDiff])
  refine ⟨64 - (i + 1), ?_, _, rfl, by kernel_rfl, ?_⟩
  · first | omega | (omega)
  simp only [ga]
  refine ⟨i + 1, o53, f54, n55, c56, cs57, o66, f67, n68, c69, cs70, rfl, ?_, rfl, ?_, ?_, ?_⟩
  ·
   rw [macI_succ, macO_succ] at hH
   exact hH.take 6
  · first | omega | (omega)
  · first | omega | (rw [← macI_succ]; exact hO58)
  · first | omega | (rw [← macO_succ]; exact hO71)
 ·
  (try simp only [cnd] at hc42)
  obtain rfl : i = 64 := by omega
  refine wp_exit ?_
  (try simp only [Exit.then, Exit.inBlock, ↓reduceIte, Nat.reduceEqDiff])
  refine hK26 _ _ ?_
  (try clear hK26 K26)
  refine wp_seq_k ?_
  intro K74 hK74
  refine wrt [.p 0, .p 1, .e 2] ?_
  refine pm (pm ?_);simp only [nf]
  refine plan_calle rfl rfl hH cf69 (fun w' hH => shaWrite_calls _ _ _ _ _ _ _ _ _ w' (hT.grow hH.chg) (hH.no hT 2 3 rfl rfl (by decide)) (hH.no hT 2 3 rfl rfl (by decide)) (hH.blk 2 rfl) hOa (hH.opt2 2 3 rfl rfl (by decide)) (fun w2 hc => (hb.chg (hH.sure2 2 3 rfl rfl hc))) (by first | omega | (simp <;> omega))) rfl ?_
  clear hH
  intro w75 v76 w77 hH hp78
  obtain ⟨rfl, o79, f80, n81, c82, cs83, hg, hbk, hO84, hox⟩ := hp78
  replace hH := hH.callw2 2 3 rfl rfl (by decide) hg hbk hox
  clear hg hbk hox
  (try simp only [nf, nh, Value.cells, arrB_set] at hH ⊢)
  refine plan_nil hH ?_
  clear hH
  intro w85 hH
  refine hK74 _ _ ?_
  (try clear hK74 K74)
  refine wp_seq_k ?_
  intro K86 hK86
  refine wrt [.p 0, .q 1, .x 2, .e 3] ?_
  refine pm ?_;simp only [nf]
  refine pq rfl rfl (qr_call cf70 (fun w' hw => shaSum_calls _ _ _ w' (hT.grow (hH.chg.trans hw)) (hw.nil_blk (hH.blk 2 rfl)) ((OwnD.sl hH 3 rfl hO84).chg hw) (by first | omega | (simp <;> omega))) rfl) ?_;simp only [nf]
  refine plan_alloc rfl rfl hH zc96 ?_
  clear hH
  intro b87 w88 hH
  (try simp only [nf, nh, Value.cells, arrB_set] at hH ⊢)
  refine plan_storeW 6 rfl rfl hH rfl rfl rfl one_arr8 sz96 (by simp) (by simp) ?_
  clear hH
  intro w89 hH
  (try simp only [nf, nh, Value.cells, arrB_set] at hH ⊢)
  refine plan_nil hH ?_
  clear hH
  intro w90 hH
  refine hK86 _ _ ?_
  (try clear hK86 K86)
  refine wp_seq_k ?_
  intro K91 hK91
  refine wrt [.p 0, .p 1, .e 2] ?_
  refine pm ?_;simp only [nf]
  refine pp rfl rfl (pr_slice_arr_all rfl Tryd.underlying96 sz5) ?_;simp only [nf]
  (try simp only [Nat.mul_one, Nat.zero_add, Nat.add_sub_cancel_left])
  refine plan_calle rfl rfl hH cf69 (fun w' hH => shaWrite_calls _ _ _ _ _ _ _ _ _ w' (hT.grow hH.chg) (hH.no hT 4 5 rfl rfl (by decide)) (hH.no hT 4 5 rfl rfl (by decide)) (hH.blk 4 rfl) hOb (hH.opt2 4 5 rfl rfl (by decide)) (fun w2 hc => (Sl.of_arr8 ((hH.keep2 4 5 6 rfl rfl rfl (by decide) (by decide) hc).blk 0 rfl) (by omega) (by omega))) (by first | omega | (simp <;> omega))) rfl ?_
  clear hH
  intro w92 v93 w94 hH hp95
  obtain ⟨rfl, o96, f97, n98, c99, cs100, hg, hbk, hO101, hox⟩ := hp95
  replace hH := hH.callw2 4 5 rfl rfl (by decide) hg hbk hox
  clear hg hbk hox
  (try simp only [nf, nh, Value.cells, arrB_set] at hH ⊢)
  refine plan_nil hH ?_
  clear hH
  intro w102 hH
  refine hK91 _ _ ?_
  (try clear hK91 K91)
  refine wp_seq_k ?_
  intro K103 hK103
  refine wrt [.p 0, .q 1, .e 2] ?_
  refine pm ?_;simp only [nf]
  refine pq rfl rfl (qr_call cf70 (fun w' hw => shaSum_calls _ _ _ w' (hT.grow (hH.chg.trans hw)) (hw.nil_blk (hH.blk 4 rfl)) ((OwnD.sl hH 5 rfl hO101).chg hw) (by first | omega | (simp <;> omega))) rfl) ?_;simp only [nf]
  refine plan_storeW 0 rfl rfl hH rfl rfl rfl one_arr8 sz96 (by simp) (by simp) ?_
  clear hH
  intro w104 hH
  (try simp only [nf, nh, Value.cells, arrB_set] at hH ⊢)
  refine plan_nil hH ?_
  clear hH
  intro w105 hH
  refine hK103 _ _ ?_
  (try clear hK103 K103)
  refine wp_ret ?_
  (try simp only [Exit.then, Exit.inBlock, ↓reduceIte, Nat.reduceEqDiff])
  refine BP.retc rfl rfl (hH.blk 0 rfl) Tryd.underlying96 rfl sz96 (by simp) ?_
  exact ⟨rfl, hH.chg⟩
end Go.Proofs.YtmoaddicejohgaaDoor
set_option linter.unusedSimpArgs false
set_option linter.unusedVariables false
namespace Go.Proofs.YtmoaddicejohgaaDoor
open Go
theorem BP.retct {P : Program} {fn : Func} {Post : Value → World → Prop} {tm : List Value} {w : World} {p q : Tmp} {t T : TypeId} {D : TypeDesc} {b n : Nat} {cs : Array Value} {v2 : Value} (hr : fn.results = #[.cell p t, .tmp q]) (hp : tm.getD p undef = PT b 0) (hq : tm.getD q undef = v2) (hb : Blk w b T cs)
    (hu : P.underlying t = some D) (hD : isAggD D = true) (hs : szc P t = some n) (hn : cs.size = n) (h : Post (.tuple #[.agg cs, v2]) w) : BP P fn Post .ret ⟨tm.toArray, []⟩ w := by
  subst hq
  refine .of (v := .tuple #[.agg cs, tm.getD q undef]) ?_ rfl h
  have hl := run_loadN (P := P) (w := w) (b := b) (o := 0) (cs := cs) hu hD hs (fun j hj => by
    have hlt : 0 + j < cs.size := by omega
    rw [hb.cell (Array.getElem?_eq_getElem hlt), Array.getElem?_eq_getElem hlt]) (by omega)
  rw [show cs.extract 0 (0 + n) = cs by rw [Nat.zero_add, ← hn]; simp] at hl
  have hp' : tm[p]?.getD undef = PT b 0 := by rw [← hp, List.getD_eq_getElem?_getD]
  simp [results, hr, hp', asAddr, hl]
theorem grownCap_le (w : World) (n c : Nat) (e : TypeId) : n ≤ grownCap w n c e := by
  simp [grownCap, Question.cut]
theorem conv_own (w : World) (e b : Nat) (s : ByteArray) : OwnC (some b) s.size (grownCap w s.size 0 e) 1 (Lib.bytesCells w e s) (s.data.toList.map V8) where
  le := grownCap_le ..
  size := by
    have h1 := grownCap_le w s.size 0 e
    have h2 : s.data.size = s.size := rfl
    simp only [Lib.bytesCells, Array.size_append, Array.size_map, Array.size_replicate]; omega
  nil h := by cases h
  len := by simp
  at_ i hi := by
    have h2 : s.data.size = s.size := rfl
    have h3 : i < s.data.size := by omega
    unfold Lib.bytesCells
    rw [Array.getElem?_append_left (by simpa using h3), Array.getElem?_map, List.getElem?_map, Array.getElem?_toList]
theorem conv_chg (w : World) (e : TypeId) (s : ByteArray) : Chg [] w (Lib.bytesWorld w e s) :=
  ((((Hp.start [] w).drew.alloc e (Lib.bytesCells w e s))).mark 0 rfl).chg
theorem OwnC.cut3 {o : Option Nat} {n c : Nat} {cs : Array Value} {l : List UInt8} {m : Nat} (h : OwnC o n c 1 cs (l.map V8)) (hm : m ≤ n) : OwnD o 0 m m cs (l.take m) where
  le := Nat.le_refl _
  fit := by have := h.d.fit; have := h.le; omega
  nil e := by have := h.nil e; have := h.le; omega
  len := by have := h.d.len; rw [List.length_take]; omega
  at_ i hi := by
    rw [List.length_take] at hi
    rw [h.d.at_ i (by omega)]; simp
section
variable {P : Program} {ops : List Oper} {Q : Exit → Act → World → Prop} {r : List PStep} {a : Act} {w : World} {i : Nat} {d : Option Tmp} {ty : TypeId} {pos : String} {af : Array Edge} {g : Option (Nat × Bool)} {x y : Operand} {t t' T : TypeId}
  {S : List Nat} {w0 : World} {L : List Own}
theorem plan_s2b {dst : Tmp} {e : TypeId} {s : ByteArray} (ho : ops[i]? = some ⟨some dst, .convert t t' x, ty, pos, af, g⟩) (hg : Region.wanted ⟨some dst, .convert t t' x, ty, pos, af, g⟩ (yielded ops.toArray a.tmps) = true)
    (hH : Hp S w0 w L) (hx : a.eval x = .string s) (hu : P.underlying t = some .string) (hu' : P.underlying t' = some (.slice e)) (he : P.underlying e = some (.int .u8))
    (h : ∀ b cap cs w', OwnC (some b) s.size cap 1 cs (s.data.toList.map V8) → Hp S w0 w' (L ++ [(some b, e, cs)]) → wpPlan P ops.toArray Q r (a.put (some dst) (own (some b) s.size cap)) w') : wpPlan P ops.toArray Q (.x i :: r) a w := by
  refine plan_xv hH ho hg fun w hH => ⟨own (some w.heap.size) s.size (grownCap w s.size 0 e), Lib.bytesWorld w e s, ?_, conv_chg w e s, h w.heap.size _ _ _ (conv_own w e _ s) ?_⟩
  · simp only [execOp, hx]
    rw [Sem.run_bind, Lib.run_convert_string_bytes w t t' e s hu hu' he]
    rfl
  · have h1 := ((hH.drew.alloc e (Lib.bytesCells w e s))).mark L.length (b := w.heap.size) (t := e) (cs := Lib.bytesCells w e s) (by simp)
    have e1 : (L ++ [(some w.drew.heap.size, e, Lib.bytesCells w e s)]).set L.length (some w.heap.size, e, Lib.bytesCells w e s) = L ++ [(some w.heap.size, e, Lib.bytesCells w e s)] := by
      rw [List.set_append_right _ _ (Nat.le_refl _), Nat.sub_self]; rfl
    rw [e1] at h1
    exact h1
theorem pr_slice_O3 {k k' : IntKind} {e : TypeId} {o : Option Nat} {n c h : Nat} {xh xm : Operand} (hx : a.eval x = own o n c) (hh : a.eval xh = .int k (h : Int)) (hm : a.eval xm = .int k' (h : Int)) (hu : P.underlying t = some (.slice e)) (hs : szc P e = some 1) (h1 : h ≤ c) :
    PRun P ⟨d, .slice t x none (some xh) (some xm), ty, pos, af, g⟩ a (ownO o 0 h h) := fun w => by
  refine run_ok_value (w := w) ?_
  have e0 : (if h = 0 then (o.map fun b => (⟨b, 0, none⟩ : Addr)) else (o.map fun b => (⟨b, 0, none⟩ : Addr)).map fun a => a.add 0) = o.map fun b => (⟨b, 0, none⟩ : Addr) := by
    split
    · rfl
    · cases o <;> simp [Addr.add]
  simp only [own, ownO] at hx ⊢
  simp [hx, hh, hm, Instr.sliceAt, Instr.slice, run_underlying hu, Instr.sliceBounds, run_bound h1, run_bound (Nat.le_refl h), run_sizeOf hs, e0]
  intro _
  cases o <;> simp [Addr.add]
end
end Go.Proofs.YtmoaddicejohgaaDoor
set_option linter.unusedSimpArgs false
set_option linter.unusedVariables false
set_option maxRecDepth 100000
set_option maxHeartbeats 4000000
namespace Go.Proofs.YtmoaddicejohgaaDoor
open Go
open List (getD_cons_zero getD_cons_succ set_cons_zero set_cons_succ)
def macL (sl bl : List UInt8) : List UInt8 := (List.range 32).map (macD sl bl)
@[simp] theorem macL_len (sl bl : List UInt8) : (macL sl bl).length = 32 := by simp [macL]
def expT (sl il : List UInt8) : Nat → List UInt8
  | 0 => []
  | k + 1 => macL sl (expT sl il k ++ il ++ [UInt8.ofNat (k + 1)])
def expO (sl il : List UInt8) : Nat → List UInt8
  | 0 => []
  | k + 1 => expO sl il k ++ expT sl il (k + 1)
theorem expT_succ (sl il : List UInt8) (k : Nat) : expT sl il (k + 1) = macL sl (expT sl il k ++ il ++ [UInt8.ofNat (k + 1)]) := rfl
theorem expO_succ (sl il : List UInt8) (k : Nat) : expO sl il (k + 1) = expO sl il k ++ macL sl (expT sl il k ++ il ++ [UInt8.ofNat (k + 1)]) := rfl
def tN : Nat → Nat
  | 0 => 0
  | _ + 1 => 32
theorem tN_le (k : Nat) : tN k ≤ 32 := by cases k <;> simp [tN]
theorem u8_succ (n : Nat) : UInt8.ofNat n + 1 = UInt8.ofNat (n + 1) := by
  apply UInt8.toNat_inj.1
  simp [UInt8.toNat_add]
def infoL (nm : ByteArray) (cl : List UInt8) (n : Nat) : List UInt8 :=
  [UInt8.ofNat (n / 2 ^ 8), UInt8.ofNat n, UInt8.ofNat (6 + nm.size)] ++ [116, 108, 115, 49, 51, 32] ++ nm.data.toList ++ [UInt8.ofNat cl.length] ++ cl
def labL (sl : List UInt8) (nm : ByteArray) (cl : List UInt8) (n : Nat) : List UInt8 := (expO sl (infoL nm cl n) ((n + 31) / 32)).take n
theorem Hp.two {S : List Nat} {w0 w : World} {L : List Own} (h : Hp S w0 w L) (i j : Nat) {e e' : Own} (hi : L[i]? = some e) (hj : L[j]? = some e') (hij : i ≠ j) : Hp S w0 w [e, e'] := by
  have h1 : Hp S w0 w [e] := (h.take 0).add e (fun b hb => h.own e (List.mem_of_getElem? hi) b hb) (fun x hx => by simp at hx)
  refine h1.add e' (fun b hb => h.own e' (List.mem_of_getElem? hj) b hb) (fun x hx b hb hxb => ?_)
  simp only [List.mem_singleton] at hx
  subst hx
  exact hij (h.apart i j b (by rw [hi]; exact hxb) (by rw [hj]; exact hb))
theorem extract_calls (sv bv : Value) (sl bl : List UInt8) (w : World) (hT : Tabs w) (hs : Sl w sv sl) (hb : Sl w bv bl) (h64 : sl.length ≤ 64) (hm : bl.length ≤ 140737488340000) : Ret Tryd.prog 37 #[sv, bv] w fun v w' => ∃ o cap cs, v = own o 32 cap ∧ Chg [] w w' ∧ OwnC o 32 cap 1 cs ((macL sl bl).map V8) ∧ ∀ b, o = some b → w.heap.size ≤ b ∧ Blk w' b 96 cs := by
 refine Ret.enter Tryd.func37 rfl ?_
 simp only [Tryd.ntmps37, fe, Nat.reduceAdd, Nat.reduceSub]
 have hH := Hp.start [] w
 refine wp_seq_k ?_
 intro K1 hK1
 refine wrt [.p 0] ?_
 refine pa ?_;simp only [nf]
 refine plan_nil hH ?_
 clear hH
 intro w2 hH
 refine hK1 _ _ ?_
 (try clear hK1 K1)
 refine wp_seq_k ?_
 intro K3 hK3
 refine wrt [.p 0, .p 1, .q 2, .x 3, .e 4] ?_
 refine pm (pm ?_);simp only [nf]
 refine pq rfl rfl (qr_call cf51 (fun w' hw => mac_calls _ _ _ _ w' (hT.grow (hH.chg.trans hw)) ((hs.chg hH.chg).chg hw) ((hb.chg hH.chg).chg hw) (by first | assumption | omega | (simp <;> omega)) (by first | omega | (simp <;> omega))) rfl) ?_;simp only [nf]
 refine plan_alloc rfl rfl hH zc96 ?_
 clear hH
 intro b4 w5 hH
 (try simp only [nf, nh, Value.cells, arrB_set] at hH ⊢)
 refine plan_storeW 0 rfl rfl hH rfl rfl rfl one_arr8 sz96 (by simp) (by simp) ?_
 clear hH
 intro w6 hH
 (try simp only [nf, nh, Value.cells, arrB_set] at hH ⊢)
 refine plan_nil hH ?_
 clear hH
 intro w7 hH
 refine hK3 _ _ ?_
 (try clear hK3 K3)
 refine wp_seq_k ?_
 intro K8 hK8
 refine wrt [.p 0, .p 1] ?_
 refine pp rfl rfl (pr_slice_arr_all rfl Tryd.underlying96 sz5) ?_;simp only [nf]
 (try simp only [Nat.mul_one, Nat.zero_add, Nat.add_sub_cancel_left])
 refine pa ?_;simp only [nf]
 refine plan_nil hH ?_
 clear hH
 intro w9 hH
 refine hK8 _ _ ?_
 (try clear hK8 K8)
 refine wp_ret ?_
 (try simp only [Exit.then, Exit.inBlock, ↓reduceIte, Nat.reduceEqDiff])
 refine BP.ret1 rfl rfl ?_
 exact ⟨some _, 32, _, rfl, hH.chg, OwnC.made, hH.owned 0 rfl⟩
theorem expand_calls (sv iv : Value) (sl il : List UInt8) (n : Nat) (w : World) (hT : Tabs w) (hs : Sl w sv sl) (hi : Sl w iv il) (h64 : sl.length ≤ 64) (hil : il.length ≤ 10000) (hn : n ≤ 8160) : Ret Tryd.prog 71 #[sv, iv, I64 n] w fun v w' => ∃ o cs, v = .tuple #[ownO o 0 n n, I64 (0 : Nat)] ∧ Chg [] w w' ∧ OwnD o 0 n n cs ((expO sl il ((n + 31) / 32)).take n) ∧ ∀ b, o = some b → w.heap.size ≤ b ∧ Blk w' b 5 cs := by
 refine Ret.enter Tryd.func71 rfl ?_
 simp only [Tryd.ntmps71, fe, Nat.reduceAdd, Nat.reduceSub]
 have hH := Hp.start [] w
 refine wp_seq_k ?_
 intro K1 hK1
 refine wrt [.p 0, .p 1] ?_
 refine pa (pka 0 ?_);simp only [nf]
 refine plan_nil hH ?_
 clear hH
 intro w2 hH
 refine hK1 _ _ ?_
 (try clear hK1 K1)
 refine wp_seq_k ?_
 intro K3 hK3
 refine wp_seq_k ?_
 intro K4 hK4
 refine wrt [.p 0, .p 1, .p 2, .p 3, .p 4, .p 5] ?_
 refine pm ?_;simp only [nf]
 refine pp rfl rfl (pr_bin rfl rfl (by first | exact bin_lss_n (n := 0)  | exact bin_lss_i)) ?_;simp only [nf]
 refine plan_p (v := BV false) rfl rfl (pr_move_v (by show BV _ = _; exact congrArg BV (decide_eq_false (by omega)))) ?_
 (try simp only [nf])
 refine pp rfl rfl pr_move ?_;simp only [nf]
 refine pp rfl rfl (pr_bin rfl rfl (by first | exact bin_gtr_n (n := 8160)  | exact bin_gtr_i)) ?_;simp only [nf]
 refine pp rfl rfl (pr_pick_f rfl) ?_;simp only [nf]
 refine plan_nil hH ?_
 clear hH
 intro w5 hH
 refine hK4 _ _ ?_
 (try clear hK4 K4)
 refine wp_cond_false (by show BV _ = _; exact congrArg BV (decide_eq_false (by omega))) ?_
 refine wp_skip ?_
 refine hK3 _ _ ?_
 (try clear hK3 K3)
 refine wp_seq_k ?_
 intro K6 hK6
 refine wrt [.p 0, .p 1] ?_
 refine pa (pa ?_);simp only [nf]
 refine plan_nil hH ?_
 clear hH
 intro w7 hH
 refine hK6 _ _ ?_
 (try clear hK6 K6)
 refine wp_seq_k ?_
 intro K8 hK8
 refine wp_seq_k ?_
 intro K9 hK9
 refine wrt [.p 0] ?_
 refine pa ?_;simp only [nf]
 refine plan_nil hH ?_
 clear hH
 intro w10 hH
 refine hK9 _ _ ?_
 (try clear hK9 K9)
 refine wp_block ?_
 refine wp_loopT [8, 9, 10] [11, 12, 19, 20, 21, 22, 23, 24, 25, 26, 27, 28, 29, 30, 31, 32, 33, 34, 35, 36, 37, 38, 39] (fun (n11 : Nat) (vs : List Value) (w' : World) => ∃ (k : Nat) (o : Option Nat) (c : Nat) (cs : Array Value) (ot : Option Nat) (tc : Nat) (ts : Array Value), vs = [own o (32 * k) c, own ot (tN k) tc, V8 (UInt8.ofNat (k + 1))] ∧ Hp [] w w' [(o, 5, cs), (ot, 96, ts)] ∧ n11 = (n + 31) / 32 - k ∧ k ≤ (n + 31) / 32 ∧ OwnC o (32 * k) c 1 cs ((expO sl il k).map V8) ∧ OwnC ot (tN k) tc 1 ts ((expT sl il k).map V8)) ((n + 31) / 32 - 0) (by kernel_rfl) ?_ ?_
 ·
  simp only [ga]
  refine ⟨0, none, 0, #[], none, 0, #[], rfl, ?_, rfl, ?_, ?_, ?_⟩
  ·
   exact (hH.nil _).nil _
  · first | omega | (omega)
  · first | omega | (exact OwnC.start 1)
  · first | omega | (exact OwnC.start 1)
 clear hH
 intro n11 vs12 w13 hR14 d0
 obtain ⟨k, o, c, cs, ot, tc, ts, rfl, hH, hn15, hf16, hO, hOt⟩ := hR14
 simp only [putAll, putD, List.set_cons_zero, List.set_cons_succ, Nat.zero_add, Nat.reduceAdd]
 have htn := tN_le k
 have hlt := hOt.d.len
 have hlo := hO.d.len
 refine wp_seq_k ?_
 intro K17 hK17
 refine wp_seq_k ?_
 intro K18 hK18
 refine wrt [.p 0, .p 1, .p 2, .p 3] ?_
 refine pm ?_;simp only [nf]
 refine pp rfl rfl (pr_len_sl rfl Tryd.underlying22) ?_;simp only [nf]
 refine pm ?_;simp only [nf]
 refine pp rfl rfl (pr_bin rfl rfl (by first | exact bin_lss_n  | exact bin_lss_i)) ?_;simp only [nf]
 refine plan_nil hH ?_
 clear hH
 intro w19 hH
 refine hK18 _ _ ?_
 (try clear hK18 K18)
 refine wp_cond_split rfl (fun hc20 => ?_) (fun hc20 => ?_)
 ·
  (try simp only [cnd] at hc20)
  refine wp_skip ?_
  refine hK17 _ _ ?_
  (try clear hK17 K17)
  refine wp_seq_k ?_
  intro K21 hK21
  refine wp_block ?_
  refine wp_seq_k ?_
  intro K22 hK22
  refine wrt [.x 0, .p 1, .e 2, .p 3, .e 4, .p 5, .x 6, .e 7, .p 8] ?_
  refine plan_buildSlice rfl rfl hH Tryd.underlying22 (by rfl) (bs0 ) ?_
  clear hH
  intro b23 w24 hH
  (try simp only [nf, nh, Value.cells, arrB_set] at hH ⊢)
  refine pm ?_;simp only [nf]
  refine plan_append 2 rfl rfl hH rfl (OwnC.of_bytes rfl) (fun w' hH => ((OwnC.sl hH 1 rfl hOt)).src) rfl rfl Tryd.underlying22 Tryd.underlying22 (.inl ⟨_, rfl⟩) sz5 bz5 ze5 rfl (by first | omega | (simp <;> omega)) (by first | omega | (simp <;> omega)) ?_
  clear hH
  intro o25 cap26 cs27 w28 hO29 hH
  (try simp only [nf] at hH ⊢)
  (try simp only [nf, nh, Value.cells, arrB_set] at hH ⊢)
  try rw [← List.map_append] at hO29
  (try simp only [Nat.zero_add, List.nil_append, List.length_nil] at hO29 ⊢)
  refine pm ?_;simp only [nf]
  refine plan_append 2 rfl rfl hH rfl hO29 (fun w' hH => ((hi.chg hH.chg)).src) rfl rfl Tryd.underlying22 Tryd.underlying22 (.inl ⟨_, rfl⟩) sz5 bz5 ze5 rfl (by first | omega | (simp <;> omega)) (by first | omega | (simp <;> omega)) ?_
  clear hH
  intro o30 cap31 cs32 w33 hO34 hH
  (try simp only [nf] at hH ⊢)
  (try simp only [nf, nh, Value.cells, arrB_set] at hH ⊢)
  try rw [← List.map_append] at hO34
  (try simp only [Nat.zero_add, List.nil_append, List.length_nil] at hO34 ⊢)
  refine pm ?_;simp only [nf]
  refine plan_buildSlice rfl rfl hH Tryd.underlying22 (by rfl) (bs1 _) ?_
  clear hH
  intro b35 w36 hH
  (try simp only [nf, nh, Value.cells, arrB_set] at hH ⊢)
  refine plan_append 2 rfl rfl hH rfl hO34 (fun w' hH => ((OwnC.sl hH 3 rfl (OwnC.of_bytes rfl))).src) rfl rfl Tryd.underlying22 Tryd.underlying22 (.inl ⟨_, rfl⟩) sz5 bz5 ze5 rfl (by first | omega | (simp <;> omega)) (by first | omega | (simp <;> omega)) ?_
  clear hH
  intro o37 cap38 cs39 w40 hO41 hH
  (try simp only [nf] at hH ⊢)
  (try simp only [nf, nh, Value.cells, arrB_set] at hH ⊢)
  try rw [← List.map_append] at hO41
  (try simp only [Nat.zero_add, List.nil_append, List.length_nil] at hO41 ⊢)
  refine pa ?_;simp only [nf]
  refine plan_nil hH ?_
  clear hH
  intro w42 hH
  refine hK22 _ _ ?_
  (try clear hK22 K22)
  refine wp_seq_k ?_
  intro K43 hK43
  refine wrt [.p 0, .p 1, .q 2, .x 3, .e 4] ?_
  refine pm (pm ?_);simp only [nf]
  refine pq rfl rfl (qr_call cf51 (fun w' hw => mac_calls _ _ _ _ w' (hT.grow (hH.chg.trans hw)) ((hs.chg hH.chg).chg hw) ((OwnC.sl hH 2 rfl hO41).chg hw) (by first | assumption | omega | (simp <;> omega)) (by first | omega | (simp <;> omega))) rfl) ?_;simp only [nf]
  refine plan_alloc rfl rfl hH zc96 ?_
  clear hH
  intro b44 w45 hH
  (try simp only [nf, nh, Value.cells, arrB_set] at hH ⊢)
  refine plan_storeW 4 rfl rfl hH rfl rfl rfl one_arr8 sz96 (by simp) (by simp) ?_
  clear hH
  intro w46 hH
  (try simp only [nf, nh, Value.cells, arrB_set] at hH ⊢)
  refine plan_nil hH ?_
  clear hH
  intro w47 hH
  refine hK43 _ _ ?_
  (try clear hK43 K43)
  refine wp_seq_k ?_
  intro K48 hK48
  refine wrt [.p 0, .p 1] ?_
  refine pp rfl rfl (pr_slice_arr_all rfl Tryd.underlying96 sz5) ?_;simp only [nf]
  (try simp only [Nat.mul_one, Nat.zero_add, Nat.add_sub_cancel_left])
  refine pa ?_;simp only [nf]
  refine plan_nil hH ?_
  clear hH
  intro w49 hH
  refine hK48 _ _ ?_
  (try clear hK48 K48)
  refine wrt [.p 0, .p 1, .e 2, .p 3] ?_
  refine pm (pm ?_);simp only [nf]
  refine plan_append 0 rfl rfl hH rfl hO (fun w' hH => ((Sl.of_arr8 (hH.blk 4 rfl) (by omega) (by omega))).src) rfl rfl Tryd.underlying22 Tryd.underlying22 (.inl ⟨_, rfl⟩) sz5 bz5 ze5 rfl (by first | omega | (simp <;> omega)) (by first | omega | (simp <;> omega)) ?_
  clear hH
  intro o50 cap51 cs52 w53 hO54 hH
  (try simp only [nf] at hH ⊢)
  (try simp only [nf, nh, Value.cells, arrB_set] at hH ⊢)
  try rw [← List.map_append] at hO54
  (try simp only [Nat.zero_add, List.nil_append, List.length_nil] at hO54 ⊢)
  refine pa ?_;simp only [nf]
  refine plan_nil hH ?_
  clear hH
  intro w55 hH
  refine hK21 _ _ ?_
  (try clear hK21 K21)
  refine wrt [.p 0, .p 1, .p 2] ?_
  refine pm ?_;simp only [nf]
  refine pp rfl rfl (pr_bin rfl rfl (bin_add_u8 _ 1)) ?_;simp only [nf]
  refine pa ?_;simp only [nf]
  refine plan_nil hH ?_
  clear hH
  intro w56 hH
  (try simp only [Exit.then, Exit.inBlock, ↓reduceIte, Nat.reduceEqDiff])
  rw [u8_succ]
  refine ⟨(n + 31) / 32 - (k + 1), ?_, _, rfl, by kernel_rfl, ?_⟩
  · first | omega | (omega)
  simp only [ga]
  refine ⟨k + 1, o50, cap51, cs52, some b44, 32, arr8 32 (macD sl (expT sl il k ++ il ++ [UInt8.ofNat (k + 1)])), rfl, ?_, rfl, ?_, ?_, ?_⟩
  ·
   exact hH.two 0 4 rfl rfl (by decide)
  · first | omega | (omega)
  · first | omega | (rw [expO_succ]; exact hO54)
  · first | omega | (rw [expT_succ]; exact OwnC.made)
 ·
  (try simp only [cnd] at hc20)
  obtain rfl : k = (n + 31) / 32 := by omega
  refine wp_exit ?_
  (try simp only [Exit.then, Exit.inBlock, ↓reduceIte, Nat.reduceEqDiff])
  refine hK8 _ _ ?_
  (try clear hK8 K8)
  refine wp_seq_k ?_
  intro K57 hK57
  refine wrt [.p 0, .p 1, .p 2, .p 3, .p 4, .p 5] ?_
  refine pm (pm (pm ?_));simp only [nf]
  refine pp rfl rfl (pr_slice_O3 rfl rfl rfl Tryd.underlying22 sz5 (Nat.le_trans (by omega) (OwnC.le hO))) ?_;simp only [nf]
  refine pa (pka 0 ?_);simp only [nf]
  refine plan_nil hH ?_
  clear hH
  intro w58 hH
  refine hK57 _ _ ?_
  (try clear hK57 K57)
  refine wp_ret ?_
  (try simp only [Exit.then, Exit.inBlock, ↓reduceIte, Nat.reduceEqDiff])
  refine BP.ret2 rfl rfl rfl ?_
  exact ⟨_, _, rfl, hH.chg, hO.cut3 (by omega), hH.owned 0 rfl⟩
theorem label2_calls (sv cv : Value) (nm : ByteArray) (sl cl : List UInt8) (n : Nat) (w : World) (hT : Tabs w) (hs : Sl w sv sl) (hc : Sl w cv cl) (h64 : sl.length ≤ 64) (hnm : nm.size ≤ 249) (hcl : cl.length ≤ 255) (hn : n ≤ 8160) : Ret Tryd.prog 52 #[sv, .string nm, cv, I64 n] w fun v w' => ∃ o cs, v = .tuple #[ownO o 0 n n, I64 (0 : Nat)] ∧ Chg [] w w' ∧ OwnD o 0 n n cs (labL sl nm cl n) ∧ ∀ b, o = some b → w.heap.size ≤ b ∧ Blk w' b 5 cs := by
 have h6 : (⟨#[116, 108, 115, 49, 51, 32]⟩ : ByteArray).size = 6 := rfl
 refine Ret.enter Tryd.func52 rfl ?_
 simp only [Tryd.ntmps52, fe, Nat.reduceAdd, Nat.reduceSub]
 have hH := Hp.start [] w
 refine wp_seq_k ?_
 intro K1 hK1
 refine wrt [.p 0, .p 1] ?_
 refine pa (pka 0 ?_);simp only [nf]
 refine plan_nil hH ?_
 clear hH
 intro w2 hH
 refine hK1 _ _ ?_
 (try clear hK1 K1)
 refine wp_seq_k ?_
 intro K3 hK3
 refine wp_block ?_
 refine wp_seq_k ?_
 intro K4 hK4
 refine wrt [.p 0, .p 1, .p 2, .p 3, .p 4, .p 5, .p 6] ?_
 refine pm ?_;simp only [nf]
 refine pp rfl rfl (pr_bin rfl rfl (by first | exact bin_lss_n (n := 0)  | exact bin_lss_i)) ?_;simp only [nf]
 refine plan_p (v := BV false) rfl rfl (pr_move_v (by show BV _ = _; exact congrArg BV (decide_eq_false (by omega)))) ?_
 (try simp only [nf])
 refine pp rfl rfl pr_move ?_;simp only [nf]
 refine pp rfl rfl (pr_bin rfl rfl (by first | exact bin_gtr_n (n := 8160)  | exact bin_gtr_i)) ?_;simp only [nf]
 refine pp rfl rfl (pr_pick_f rfl) ?_;simp only [nf]
 refine pa ?_;simp only [nf]
 refine plan_nil hH ?_
 clear hH
 intro w5 hH
 refine hK4 _ _ ?_
 (try clear hK4 K4)
 refine wp_cond_false (by show BV _ = _; exact congrArg BV (decide_eq_false (by omega))) ?_
 refine wp_seq_k ?_
 intro K6 hK6
 refine wrt [.p 0, .p 1, .p 2, .p 3, .p 4, .p 5, .p 6, .p 7, .p 8] ?_
 refine pm ?_;simp only [nf]
 refine pp rfl rfl (pr_len_str rfl Tryd.underlying9) ?_;simp only [nf]
 refine pp rfl rfl (pr_bin rfl rfl (by first | exact bin_gtr_n (n := 249)  | exact bin_gtr_i)) ?_;simp only [nf]
 refine plan_p (v := BV false) rfl rfl (pr_move_v (by show BV _ = _; exact congrArg BV (decide_eq_false (by omega)))) ?_
 (try simp only [nf])
 refine pp rfl rfl pr_move ?_;simp only [nf]
 refine pp rfl rfl (pr_len_Sl (hc.chg hH.chg) rfl Tryd.underlying22) ?_;simp only [nf]
 refine pp rfl rfl (pr_bin rfl rfl (by first | exact bin_gtr_n (n := 255)  | exact bin_gtr_i)) ?_;simp only [nf]
 refine pp rfl rfl (pr_pick_f rfl) ?_;simp only [nf]
 refine pa ?_;simp only [nf]
 refine plan_nil hH ?_
 clear hH
 intro w7 hH
 refine hK6 _ _ ?_
 (try clear hK6 K6)
 refine wp_cond_false (by show BV _ = _; exact congrArg BV (decide_eq_false (by omega))) ?_
 refine wp_skip ?_
 refine hK3 _ _ ?_
 (try clear hK3 K3)
 refine wp_seq_k ?_
 intro K8 hK8
 refine wrt [.p 0, .p 1, .p 2, .p 3, .p 4, .p 5, .p 6, .p 7, .p 8, .x 9, .e 10, .p 11] ?_
 refine pm ?_;simp only [nf]
 refine pp rfl rfl (pr_bin rfl rfl (bin_shr_n (c := 8) (by decide))) ?_;simp only [nf]
 refine pp rfl rfl (pr_conv rfl (by first | exact cnv_n_u8 Tryd.underlying3 Tryd.underlying5 | exact cnv_i_u8 Tryd.underlying3 Tryd.underlying5)) ?_;simp only [nf]
 refine pm ?_;simp only [nf]
 refine pp rfl rfl (pr_conv rfl (by first | exact cnv_n_u8 Tryd.underlying3 Tryd.underlying5 | exact cnv_i_u8 Tryd.underlying3 Tryd.underlying5)) ?_;simp only [nf]
 refine pm ?_;simp only [nf]
 refine pp rfl rfl (pr_len_str rfl Tryd.underlying9) ?_;simp only [nf]
 refine pp rfl rfl (pr_bin rfl rfl (by first | exact bin_add_n (m := 6) (by omega) | exact bin_add_i (by omega) (by omega))) ?_;simp only [nf]
 refine pp rfl rfl (pr_conv rfl (by first | exact cnv_n_u8 Tryd.underlying3 Tryd.underlying5 | exact cnv_i_u8 Tryd.underlying3 Tryd.underlying5)) ?_;simp only [nf]
 refine plan_buildSlice rfl rfl hH Tryd.underlying22 (by rfl) (bs3 _ _ _) ?_
 clear hH
 intro b9 w10 hH
 (try simp only [nf, nh, Value.cells, arrB_set] at hH ⊢)
 refine plan_append 0 rfl rfl hH rfl (OwnC.of_bytes rfl) (fun w' hH => src_string _) rfl rfl Tryd.underlying22 Tryd.underlying9 (.inr rfl) sz5 bz5 ze5 rfl (by first | omega | (simp <;> omega)) (by first | omega | (simp <;> omega)) ?_
 clear hH
 intro o11 cap12 cs13 w14 hO15 hH
 (try simp only [nf] at hH ⊢)
 (try simp only [nf, nh, Value.cells, arrB_set] at hH ⊢)
 try rw [← List.map_append] at hO15
 (try simp only [Nat.zero_add, List.nil_append, List.length_nil] at hO15 ⊢)
 refine pa ?_;simp only [nf]
 refine plan_nil hH ?_
 clear hH
 intro w16 hH
 refine hK8 _ _ ?_
 (try clear hK8 K8)
 refine wp_seq_k ?_
 intro K17 hK17
 refine wrt [.p 0, .p 1, .e 2, .p 3, .p 4, .p 5, .x 6, .e 7, .p 8] ?_
 refine pm (pm ?_);simp only [nf]
 refine plan_append 0 rfl rfl hH rfl hO15 (fun w' hH => src_string _) rfl rfl Tryd.underlying22 Tryd.underlying9 (.inr rfl) sz5 bz5 ze5 rfl (by first | omega | (simp <;> omega)) (by first | omega | (simp <;> omega)) ?_
 clear hH
 intro o18 cap19 cs20 w21 hO22 hH
 (try simp only [nf] at hH ⊢)
 (try simp only [nf, nh, Value.cells, arrB_set] at hH ⊢)
 try rw [← List.map_append] at hO22
 (try simp only [Nat.zero_add, List.nil_append, List.length_nil] at hO22 ⊢)
 refine pm ?_;simp only [nf]
 refine pp rfl rfl (pr_len_Sl (hc.chg hH.chg) rfl Tryd.underlying22) ?_;simp only [nf]
 refine pp rfl rfl (pr_conv rfl (by first | exact cnv_n_u8 Tryd.underlying3 Tryd.underlying5 | exact cnv_i_u8 Tryd.underlying3 Tryd.underlying5)) ?_;simp only [nf]
 refine plan_buildSlice rfl rfl hH Tryd.underlying22 (by rfl) (bs1 _) ?_
 clear hH
 intro b23 w24 hH
 (try simp only [nf, nh, Value.cells, arrB_set] at hH ⊢)
 refine plan_append 0 rfl rfl hH rfl hO22 (fun w' hH => ((OwnC.sl hH 1 rfl (OwnC.of_bytes rfl))).src) rfl rfl Tryd.underlying22 Tryd.underlying22 (.inl ⟨_, rfl⟩) sz5 bz5 ze5 rfl (by first | omega | (simp <;> omega)) (by first | omega | (simp <;> omega)) ?_
 clear hH
 intro o25 cap26 cs27 w28 hO29 hH
 (try simp only [nf] at hH ⊢)
 (try simp only [nf, nh, Value.cells, arrB_set] at hH ⊢)
 try rw [← List.map_append] at hO29
 (try simp only [Nat.zero_add, List.nil_append, List.length_nil] at hO29 ⊢)
 refine pa ?_;simp only [nf]
 refine plan_nil hH ?_
 clear hH
 intro w30 hH
 refine hK17 _ _ ?_
 (try clear hK17 K17)
 refine wp_seq_k ?_
 intro K31 hK31
 refine wrt [.p 0, .p 1, .p 2, .e 3, .p 4, .x 5, .p 6, .p 7, .p 8, .p 9] ?_
 refine pm (pm (pm ?_));simp only [nf]
 refine plan_append 0 rfl rfl hH rfl hO29 (fun w' hH => ((hc.chg hH.chg)).src) rfl rfl Tryd.underlying22 Tryd.underlying22 (.inl ⟨_, rfl⟩) sz5 bz5 ze5 rfl (by first | omega | (simp <;> omega)) (by first | omega | (simp <;> omega)) ?_
 clear hH
 intro o32 cap33 cs34 w35 hO36 hH
 (try simp only [nf] at hH ⊢)
 (try simp only [nf, nh, Value.cells, arrB_set] at hH ⊢)
 try rw [← List.map_append] at hO36
 (try simp only [Nat.zero_add, List.nil_append, List.length_nil] at hO36 ⊢)
 refine pm ?_;simp only [nf]
 refine plan_callx rfl rfl hH cf71 (fun w' hH => expand_calls _ _ _ _ _ w' (hT.grow hH.chg) (hs.chg hH.chg) (OwnC.sl hH 0 rfl hO36) h64 (by first | omega | (simp <;> omega)) hn) rfl (fun _ _ _ h => by obtain ⟨_, _, _, hg, _⟩ := h; exact hg) ?_
 clear hH
 intro w37 v38 w39 hH hp40
 obtain ⟨o41, cs42, rfl, hg, hO43, hfr⟩ := hp40
 replace hH := hH.callown hg hfr
 clear hg hfr
 (try simp only [nf, nh, Value.cells, arrB_set] at hH ⊢)
 (try simp only [nf])
 refine pp rfl rfl (pr_extract rfl rfl) ?_;simp only [nf]
 refine pp rfl rfl (pr_extract rfl rfl) ?_;simp only [nf]
 refine pa (pa ?_);simp only [nf]
 refine plan_nil hH ?_
 clear hH
 intro w44 hH
 refine hK31 _ _ ?_
 (try clear hK31 K31)
 refine wp_ret ?_
 (try simp only [Exit.then, Exit.inBlock, ↓reduceIte, Nat.reduceEqDiff])
 refine BP.ret2 rfl rfl rfl ?_
 exact ⟨_, _, rfl, hH.chg, by assumption, hH.owned 2 rfl⟩
theorem label_calls (sv : Value) (nm : ByteArray) (sl : List UInt8) (n : Nat) (w : World) (hT : Tabs w) (hs : Sl w sv sl) (h64 : sl.length ≤ 64) (hnm : nm.size ≤ 249) (hn : n ≤ 8160) : Ret Tryd.prog 38 #[sv, .string nm, I64 n] w fun v w' => v = .string ⟨(labL sl nm [] n).toArray⟩ ∧ Chg [] w w' := by
 refine Ret.enter Tryd.func38 rfl ?_
 simp only [Tryd.ntmps38, fe, Nat.reduceAdd, Nat.reduceSub]
 have hH := Hp.start [] w
 refine wp_seq_k ?_
 intro K1 hK1
 refine wrt [.p 0] ?_
 refine pa ?_;simp only [nf]
 refine plan_nil hH ?_
 clear hH
 intro w2 hH
 refine hK1 _ _ ?_
 (try clear hK1 K1)
 refine wp_seq_k ?_
 intro K3 hK3
 refine wrt [.p 0, .p 1, .p 2, .x 3, .p 4, .p 5, .p 6, .p 7, .p 8] ?_
 refine pm (pm (pm ?_));simp only [nf]
 refine plan_callx rfl rfl hH cf52 (fun w' hH => label2_calls _ _ _ _ [] _ w' (hT.grow hH.chg) (hs.chg hH.chg) Sl.nil h64 hnm (by simp) hn) rfl (fun _ _ _ h => by obtain ⟨_, _, _, hg, _⟩ := h; exact hg) ?_
 clear hH
 intro w4 v5 w6 hH hp7
 obtain ⟨o8, cs9, rfl, hg, hO10, hfr⟩ := hp7
 replace hH := hH.callown hg hfr
 clear hg hfr
 (try simp only [nf, nh, Value.cells, arrB_set] at hH ⊢)
 (try simp only [nf])
 refine pm ?_;simp only [nf]
 refine pp rfl rfl (pr_extract rfl rfl) ?_;simp only [nf]
 refine pp rfl rfl (pr_extract rfl rfl) ?_;simp only [nf]
 refine pa (pa ?_);simp only [nf]
 refine plan_nil hH ?_
 clear hH
 intro w11 hH
 refine hK3 _ _ ?_
 (try clear hK3 K3)
 refine wp_seq_k ?_
 intro K12 hK12
 refine wrt [.p 0, .q 1, .p 2] ?_
 refine pm ?_;simp only [nf]
 refine pq rfl rfl (qr_b2s (OwnD.sl hH 0 rfl hO10) rfl Tryd.underlying22 Tryd.underlying5 Tryd.underlying9) ?_;simp only [nf]
 refine pa ?_;simp only [nf]
 refine plan_nil hH ?_
 clear hH
 intro w13 hH
 refine hK12 _ _ ?_
 (try clear hK12 K12)
 refine wp_ret ?_
 (try simp only [Exit.then, Exit.inBlock, ↓reduceIte, Nat.reduceEqDiff])
 refine BP.ret1 rfl rfl ?_
 exact ⟨rfl, hH.chg⟩
theorem bs20 (x0 x1 x2 x3 x4 x5 x6 x7 x8 x9 x10 x11 x12 x13 x14 x15 x16 x17 x18 x19 : UInt8) : ∀ w, (Instr.buildSlice 22 20 [(0, V8 x0), (1, V8 x1), (2, V8 x2), (3, V8 x3), (4, V8 x4), (5, V8 x5), (6, V8 x6), (7, V8 x7), (8, V8 x8), (9, V8 x9), (10, V8 x10), (11, V8 x11), (12, V8 x12), (13, V8 x13), (14, V8 x14), (15, V8 x15), (16, V8 x16), (17, V8 x17), (18, V8 x18), (19, V8 x19)].toArray).run Tryd.prog w = .ok (.slice (some ⟨w.heap.size, 0, none⟩) 20 20) (w.alloc (.cells (bytes [x0, x1, x2, x3, x4, x5, x6, x7, x8, x9, x10, x11, x12, x13, x14, x15, x16, x17, x18, x19]) 5)) := fun w => by kernel_rfl
def kKey (sl : List UInt8) : ByteArray := ⟨(labL sl ⟨#[113, 117, 105, 99, 32, 107, 101, 121]⟩ [] 16).toArray⟩
def kIv (sl : List UInt8) : ByteArray := ⟨(labL sl ⟨#[113, 117, 105, 99, 32, 105, 118]⟩ [] 12).toArray⟩
def kMask (sl : List UInt8) : ByteArray := ⟨(labL sl ⟨#[113, 117, 105, 99, 32, 104, 112]⟩ [] 16).toArray⟩
def kNext (sl : List UInt8) : ByteArray := ⟨(labL sl ⟨#[113, 117, 105, 99, 32, 107, 117]⟩ [] 32).toArray⟩
def kCli (sl : List UInt8) : ByteArray := ⟨(labL sl ⟨#[99, 108, 105, 101, 110, 116, 32, 105, 110]⟩ [] 32).toArray⟩
def kSrv (sl : List UInt8) : ByteArray := ⟨(labL sl ⟨#[115, 101, 114, 118, 101, 114, 32, 105, 110]⟩ [] 32).toArray⟩
def salt1 : List UInt8 := [56, 118, 44, 247, 245, 89, 52, 179, 77, 23, 154, 230, 164, 200, 12, 173, 204, 187, 127, 10]
theorem keysOf_calls (s : ByteArray) (w : World) (hT : Tabs w) (hs : s.size = 32) : Ret Tryd.prog 20 #[.string s] w fun v w' => v = .tuple #[.agg #[.string (kKey s.data.toList), .string (kIv s.data.toList), .string (kMask s.data.toList)], I64 (0 : Nat)] ∧ Chg [] w w' := by
 refine Ret.enter Tryd.func20 rfl ?_
 simp only [Tryd.ntmps20, fe, Nat.reduceAdd, Nat.reduceSub]
 have hH := Hp.start [] w
 refine wp_seq_k ?_
 intro K1 hK1
 refine wrt [.x 0, .p 1] ?_
 refine plan_alloc rfl rfl hH zc37 ?_
 clear hH
 intro b2 w3 hH
 (try simp only [nf, nh, Value.cells, arrB_set] at hH ⊢)
 refine pka 0 ?_;simp only [nf]
 refine plan_nil hH ?_
 clear hH
 intro w4 hH
 refine hK1 _ _ ?_
 (try clear hK1 K1)
 refine wp_seq_k ?_
 intro K5 hK5
 refine wp_seq_k ?_
 intro K6 hK6
 refine wrt [.p 0, .p 1, .p 2] ?_
 refine pm ?_;simp only [nf]
 refine pp rfl rfl (pr_len_str rfl Tryd.underlying9) ?_;simp only [nf]
 refine pp rfl rfl (pr_bin rfl rfl (by first | exact bin_neq_n (n := 32)  | exact bin_neq_i)) ?_;simp only [nf]
 refine plan_nil hH ?_
 clear hH
 intro w7 hH
 refine hK6 _ _ ?_
 (try clear hK6 K6)
 refine wp_cond_false (by show BV _ = _; rw [hs]; rfl) ?_
 refine wp_skip ?_
 refine hK5 _ _ ?_
 (try clear hK5 K5)
 refine wp_seq_k ?_
 intro K8 hK8
 refine wrt [.p 0, .x 1, .p 2] ?_
 refine pm ?_;simp only [nf]
 refine plan_s2b rfl rfl hH rfl Tryd.underlying9 Tryd.underlying22 Tryd.underlying5 ?_
 clear hH
 intro b9 cap10 cs11 w12 hO13 hH
 (try simp only [nf] at hH ⊢)
 (try simp only [nf, nh, Value.cells, arrB_set] at hH ⊢)
 refine pa ?_;simp only [nf]
 refine plan_nil hH ?_
 clear hH
 intro w14 hH
 refine hK8 _ _ ?_
 (try clear hK8 K8)
 refine wp_seq_k ?_
 intro K15 hK15
 refine wrt [.p 0, .q 1, .p 2, .q 3, .p 4, .q 5, .p 6, .e 7, .p 8] ?_
 refine pm ?_;simp only [nf]
 refine pq rfl rfl (qr_call cf38 (fun w' hw => label_calls _ _ _ _ w' (hT.grow (hH.chg.trans hw)) ((OwnC.sl hH 1 rfl hO13).chg hw) (by first | assumption | omega | (simp <;> omega)) (by first | decide | omega | (simp <;> omega)) (by first | decide | omega)) rfl) ?_;simp only [nf]
 refine pm ?_;simp only [nf]
 refine pq rfl rfl (qr_call cf38 (fun w' hw => label_calls _ _ _ _ w' (hT.grow (hH.chg.trans hw)) ((OwnC.sl hH 1 rfl hO13).chg hw) (by first | assumption | omega | (simp <;> omega)) (by first | decide | omega | (simp <;> omega)) (by first | decide | omega)) rfl) ?_;simp only [nf]
 refine pm ?_;simp only [nf]
 refine pq rfl rfl (qr_call cf38 (fun w' hw => label_calls _ _ _ _ w' (hT.grow (hH.chg.trans hw)) ((OwnC.sl hH 1 rfl hO13).chg hw) (by first | assumption | omega | (simp <;> omega)) (by first | decide | omega | (simp <;> omega)) (by first | decide | omega)) rfl) ?_;simp only [nf]
 refine pp rfl rfl (pr_build (by rfl) (bd37_0_1_2 _ _ _)) ?_;simp only [nf]
 refine plan_storeW 0 rfl rfl hH rfl rfl rfl (by simp [Value.oneCell']) sz37 (by simp) (by simp) ?_
 clear hH
 intro w16 hH
 (try simp only [nf, nh, Value.cells, arrB_set] at hH ⊢)
 refine pka 0 ?_;simp only [nf]
 refine plan_nil hH ?_
 clear hH
 intro w17 hH
 refine hK15 _ _ ?_
 (try clear hK15 K15)
 refine wp_ret ?_
 (try simp only [Exit.then, Exit.inBlock, ↓reduceIte, Nat.reduceEqDiff])
 refine BP.retct rfl rfl rfl (hH.blk 0 rfl) Tryd.underlying37 rfl sz37 (by simp) ?_
 exact ⟨rfl, hH.chg⟩
theorem keysNext_calls (s : ByteArray) (w : World) (hT : Tabs w) (hs : s.size = 32) : Ret Tryd.prog 19 #[.string s] w fun v w' => v = .tuple #[.string (kNext s.data.toList), I64 (0 : Nat)] ∧ Chg [] w w' := by
 refine Ret.enter Tryd.func19 rfl ?_
 simp only [Tryd.ntmps19, fe, Nat.reduceAdd, Nat.reduceSub]
 have hH := Hp.start [] w
 refine wp_seq_k ?_
 intro K1 hK1
 refine wrt [.p 0, .p 1] ?_
 refine pa (pka 0 ?_);simp only [nf]
 refine plan_nil hH ?_
 clear hH
 intro w2 hH
 refine hK1 _ _ ?_
 (try clear hK1 K1)
 refine wp_seq_k ?_
 intro K3 hK3
 refine wp_seq_k ?_
 intro K4 hK4
 refine wrt [.p 0, .p 1, .p 2] ?_
 refine pm ?_;simp only [nf]
 refine pp rfl rfl (pr_len_str rfl Tryd.underlying9) ?_;simp only [nf]
 refine pp rfl rfl (pr_bin rfl rfl (by first | exact bin_neq_n (n := 32)  | exact bin_neq_i)) ?_;simp only [nf]
 refine plan_nil hH ?_
 clear hH
 intro w5 hH
 refine hK4 _ _ ?_
 (try clear hK4 K4)
 refine wp_cond_false (by show BV _ = _; rw [hs]; rfl) ?_
 refine wp_skip ?_
 refine hK3 _ _ ?_
 (try clear hK3 K3)
 refine wp_seq_k ?_
 intro K6 hK6
 refine wrt [.p 0, .x 1, .q 2, .p 3, .p 4] ?_
 refine pm ?_;simp only [nf]
 refine plan_s2b rfl rfl hH rfl Tryd.underlying9 Tryd.underlying22 Tryd.underlying5 ?_
 clear hH
 intro b7 cap8 cs9 w10 hO11 hH
 (try simp only [nf] at hH ⊢)
 (try simp only [nf, nh, Value.cells, arrB_set] at hH ⊢)
 refine pq rfl rfl (qr_call cf38 (fun w' hw => label_calls _ _ _ _ w' (hT.grow (hH.chg.trans hw)) ((OwnC.sl hH 0 rfl hO11).chg hw) (by first | assumption | omega | (simp <;> omega)) (by first | decide | omega | (simp <;> omega)) (by first | decide | omega)) rfl) ?_;simp only [nf]
 refine pa (pka 0 ?_);simp only [nf]
 refine plan_nil hH ?_
 clear hH
 intro w12 hH
 refine hK6 _ _ ?_
 (try clear hK6 K6)
 refine wp_ret ?_
 (try simp only [Exit.then, Exit.inBlock, ↓reduceIte, Nat.reduceEqDiff])
 refine BP.ret2 rfl rfl rfl ?_
 exact ⟨rfl, hH.chg⟩
theorem keysFirst_calls (s : ByteArray) (w : World) (hT : Tabs w) (hs : s.size ≤ 20) : Ret Tryd.prog 18 #[.string s] w fun v w' => v = .tuple #[.string (kCli (macL salt1 s.data.toList)), .string (kSrv (macL salt1 s.data.toList)), I64 (0 : Nat)] ∧ Chg [] w w' := by
 have hsl : s.data.toList.length = s.size := by simp
 refine Ret.enter Tryd.func18 rfl ?_
 simp only [Tryd.ntmps18, fe, Nat.reduceAdd, Nat.reduceSub]
 have hH := Hp.start [] w
 refine wp_seq_k ?_
 intro K1 hK1
 refine wrt [.p 0, .p 1, .p 2] ?_
 refine pa (pa (pka 0 ?_));simp only [nf]
 refine plan_nil hH ?_
 clear hH
 intro w2 hH
 refine hK1 _ _ ?_
 (try clear hK1 K1)
 refine wp_seq_k ?_
 intro K3 hK3
 refine wp_seq_k ?_
 intro K4 hK4
 refine wrt [.p 0, .p 1, .p 2] ?_
 refine pm ?_;simp only [nf]
 refine pp rfl rfl (pr_len_str rfl Tryd.underlying9) ?_;simp only [nf]
 refine pp rfl rfl (pr_bin rfl rfl (by first | exact bin_gtr_n (n := 20)  | exact bin_gtr_i)) ?_;simp only [nf]
 refine plan_nil hH ?_
 clear hH
 intro w5 hH
 refine hK4 _ _ ?_
 (try clear hK4 K4)
 refine wp_cond_false (by show BV _ = _; exact congrArg BV (decide_eq_false (by omega))) ?_
 refine wp_skip ?_
 refine hK3 _ _ ?_
 (try clear hK3 K3)
 refine wp_seq_k ?_
 intro K6 hK6
 refine wrt [.x 0, .e 1, .p 2, .x 3, .x 4, .p 5] ?_
 refine plan_buildSlice rfl rfl hH Tryd.underlying22 (by rfl) (bs20 56 118 44 247 245 89 52 179 77 23 154 230 164 200 12 173 204 187 127 10) ?_
 clear hH
 intro b7 w8 hH
 (try simp only [nf, nh, Value.cells, arrB_set] at hH ⊢)
 refine plan_mark 0 rfl rfl hH rfl rfl Tryd.underlying22 Tryd.underlying5 ?_
 clear hH
 intro w9 hH
 (try simp only [nf] at hH ⊢)
 (try simp only [nf, nh, Value.cells, arrB_set] at hH ⊢)
 refine pm ?_;simp only [nf]
 refine plan_s2b rfl rfl hH rfl Tryd.underlying9 Tryd.underlying22 Tryd.underlying5 ?_
 clear hH
 intro b10 cap11 cs12 w13 hO14 hH
 (try simp only [nf] at hH ⊢)
 (try simp only [nf, nh, Value.cells, arrB_set] at hH ⊢)
 refine plan_callx rfl rfl hH cf37 (fun w' hH => extract_calls _ _ _ _ w' (hT.grow hH.chg) (OwnC.sl hH 0 rfl (OwnC.of_bytes rfl)) (OwnC.sl hH 1 rfl hO14) (by first | assumption | omega | (simp <;> omega)) (by first | omega | (simp <;> omega))) rfl (fun _ _ _ h => by obtain ⟨_, _, _, _, hg, _⟩ := h; exact hg) ?_
 clear hH
 intro w15 v16 w17 hH hp18
 obtain ⟨o19, cap20, cs21, rfl, hg, hO22, hfr⟩ := hp18
 replace hH := hH.callown hg hfr
 clear hg hfr
 (try simp only [nf, nh, Value.cells, arrB_set] at hH ⊢)
 (try simp only [nf])
 refine pa ?_;simp only [nf]
 refine plan_nil hH ?_
 clear hH
 intro w23 hH
 refine hK6 _ _ ?_
 (try clear hK6 K6)
 refine wp_seq_k ?_
 intro K24 hK24
 refine wrt [.p 0, .q 1, .p 2, .q 3, .p 4, .p 5, .p 6] ?_
 refine pm ?_;simp only [nf]
 refine pq rfl rfl (qr_call cf38 (fun w' hw => label_calls _ _ _ _ w' (hT.grow (hH.chg.trans hw)) ((OwnC.sl hH 2 rfl hO22).chg hw) (by first | assumption | omega | (simp <;> omega)) (by first | decide | omega | (simp <;> omega)) (by first | decide | omega)) rfl) ?_;simp only [nf]
 refine pm ?_;simp only [nf]
 refine pq rfl rfl (qr_call cf38 (fun w' hw => label_calls _ _ _ _ w' (hT.grow (hH.chg.trans hw)) ((OwnC.sl hH 2 rfl hO22).chg hw) (by first | assumption | omega | (simp <;> omega)) (by first | decide | omega | (simp <;> omega)) (by first | decide | omega)) rfl) ?_;simp only [nf]
 refine pa (pa (pka 0 ?_));simp only [nf]
 refine plan_nil hH ?_
 clear hH
 intro w25 hH
 refine hK24 _ _ ?_
 (try clear hK24 K24)
 refine wp_ret ?_
 (try simp only [Exit.then, Exit.inBlock, ↓reduceIte, Nat.reduceEqDiff])
 refine BP.ret3 rfl rfl rfl rfl ?_
 exact ⟨rfl, hH.chg⟩
end Go.Proofs.YtmoaddicejohgaaDoor
set_option linter.unusedSimpArgs false
set_option linter.unusedVariables false
set_option maxRecDepth 100000
set_option maxHeartbeats 4000000
namespace Go.Proofs.YtmoaddicejohgaaDoor
open Go
open List (getD_cons_zero getD_cons_succ set_cons_zero set_cons_succ)
abbrev P2 := UInt64 × UInt64
abbrev PV (p : P2) : Value := .agg #[V64 p.1, V64 p.2]
def wordF (f : Nat → UInt8) : Nat → UInt64
  | 0 => 0
  | n + 1 => wordF f n <<< 8 ||| (f n).toUInt64
def ofP (f : Nat → UInt8) : P2 := (wordF f 8, wordF (fun i => f (8 + i)) 8)
def byteW (x : UInt64) (i : Nat) : UInt8 := (if 56 - 8 * i < 64 then x >>> UInt64.ofNat (56 - 8 * i) else 0).toUInt8
def nbP (p : P2) (j : Nat) : UInt8 := if j < 8 then byteW p.1 j else byteW p.2 (j - 8)
def mskW (a : P2) (i : Nat) : UInt64 := -((if 63 - i % 64 < 64 then (if 64 ≤ i then a.2 else a.1) >>> UInt64.ofNat (63 - i % 64) else 0) &&& 1)
def bW (b : P2) : Nat → P2
  | 0 => b
  | n + 1 => ((bW b n).1 >>> 1 ^^^ (-((bW b n).2 &&& 1)) &&& 16212958658533785600, (bW b n).2 >>> 1 ||| (bW b n).1 <<< 63)
def zW (a b : P2) : Nat → P2
  | 0 => (0, 0)
  | n + 1 => ((zW a b n).1 ^^^ (bW b n).1 &&& mskW a n, (zW a b n).2 ^^^ (bW b n).2 &&& mskW a n)
def mulP (a b : P2) : P2 := zW a b 128
def blkP (l : List UInt8) (n : Nat) : P2 := ofP fun i => l.getD (16 * n + i) 0
def takeP (h r : P2) (l : List UInt8) : Nat → P2
  | 0 => r
  | n + 1 => mulP ((takeP h r l n).1 ^^^ (blkP l n).1, (takeP h r l n).2 ^^^ (blkP l n).2) h
def blocks (l : List UInt8) : Nat := (l.length + 15) / 16
theorem wordF_list (l : List UInt8) (h : 8 ≤ l.length) : wordF (fun i => (l.take 8).getD i 0) 8 = wordF (fun i => l.getD i 0) 8 := by
  simp only [wordF]
  rw [take_getD l (by omega), take_getD l (by omega), take_getD l (by omega), take_getD l (by omega), take_getD l (by omega), take_getD l (by omega), take_getD l (by omega), take_getD l (by omega)]
theorem nb_step (p : P2) (i j : Nat) (hi : i < 8) (hj : j < 16) :
    upd (upd (fun j => if j < i ∨ 8 ≤ j ∧ j < 8 + i then nbP p j else 0) i (byteW p.1 i)) (8 + i) (byteW p.2 i) j = if j < i + 1 ∨ 8 ≤ j ∧ j < 8 + (i + 1) then nbP p j else 0 := by
  simp only [upd]
  by_cases h1 : j = 8 + i
  · subst h1
    rw [if_pos rfl, if_pos (by omega)]
    unfold nbP
    rw [if_neg (by omega), Nat.add_sub_cancel_left]
  · rw [if_neg h1]
    by_cases h2 : j = i
    · subst h2
      rw [if_pos rfl, if_pos (by omega)]
      unfold nbP
      rw [if_pos hi]
    · rw [if_neg h2]
      by_cases h3 : j < i ∨ 8 ≤ j ∧ j < 8 + i
      · rw [if_pos h3, if_pos (by omega)]
      · rw [if_neg h3, if_neg (by omega)]
theorem word_calls (v : Value) (l : List UInt8) (w : World) (hv : Sl w v l) (h8 : 8 ≤ l.length) : Ret Tryd.prog 63 #[v] w fun v' w' => v' = V64 (wordF (fun i => l.getD i 0) 8) ∧ Chg [] w w' := by
 refine Ret.enter Tryd.func63 rfl ?_
 simp only [Tryd.ntmps63, fe, Nat.reduceAdd, Nat.reduceSub]
 have hH := Hp.start [] w
 refine wp_seq_k ?_
 intro K1 hK1
 refine wrt [.p 0] ?_
 refine pa ?_;simp only [nf]
 refine plan_nil hH ?_
 clear hH
 intro w2 hH
 refine hK1 _ _ ?_
 (try clear hK1 K1)
 refine wp_seq_k ?_
 intro K3 hK3
 refine wrt [.p 0] ?_
 refine pa ?_;simp only [nf]
 refine plan_nil hH ?_
 clear hH
 intro w4 hH
 refine hK3 _ _ ?_
 (try clear hK3 K3)
 refine wp_seq_k ?_
 intro K5 hK5
 refine wp_seq_k ?_
 intro K6 hK6
 refine wrt [.p 0, .p 1, .p 2, .p 3] ?_
 refine pm ?_;simp only [nf]
 refine pp rfl rfl (pr_slice_Sl_h (hi := 8) (hv.chg hH.chg) rfl rfl Tryd.underlying22 sz5 (by first | omega | (simp <;> omega))) ?_;simp only [nf]
 refine pp rfl rfl (pr_len_Sl (Sl.cuth (hv.chg hH.chg) (by first | omega | (simp <;> omega))) rfl Tryd.underlying22) ?_;simp only [nf]
 refine pk 0 ?_;simp only [nf]
 refine plan_nil hH ?_
 clear hH
 intro w7 hH
 refine hK6 _ _ ?_
 (try clear hK6 K6)
 refine wp_block ?_
 refine wp_loopT [3, 9] [5, 10, 11, 12, 13, 14, 15, 16, 17, 18] (fun (n8 : Nat) (vs : List Value) (w' : World) => ∃ (i : Nat), vs = [V64 (wordF (fun i => (l.take 8).getD i 0) i), I64 (i : Nat)] ∧ Hp [] w w' [] ∧ n8 = 8 - i ∧ i ≤ 8) (8 - 0) (by kernel_rfl) ?_ ?_
 ·
  simp only [ga]
  refine ⟨0, rfl, ?_, rfl, ?_⟩
  ·
   exact hH
  · first | omega | (omega)
 clear hH
 intro n8 vs9 w10 hR11 d0
 obtain ⟨i, rfl, hH, hn12, hf13⟩ := hR11
 simp only [putAll, putD, List.set_cons_zero, List.set_cons_succ, Nat.zero_add, Nat.reduceAdd]
 refine wp_seq_k ?_
 intro K14 hK14
 refine wrt [.p 0] ?_
 refine pp rfl rfl (pr_bin rfl rfl (by first | exact bin_lss_n  | exact bin_lss_i)) ?_;simp only [nf]
 refine plan_nil hH ?_
 clear hH
 intro w15 hH
 refine hK14 _ _ ?_
 (try clear hK14 K14)
 refine wp_seq_k ?_
 intro K16 hK16
 refine wp_cond_split rfl (fun hc17 => ?_) (fun hc17 => ?_)
 ·
  (try simp only [cnd] at hc17)
  simp only [List.length_take] at hc17
  refine wp_skip ?_
  refine hK16 _ _ ?_
  (try clear hK16 K16)
  refine wp_seq_k ?_
  intro K18 hK18
  refine wp_block ?_
  refine wp_seq_k ?_
  intro K19 hK19
  refine wrt [.p 0, .q 1, .p 2] ?_
  refine pp rfl rfl (pr_idx_Sl (Sl.cuth (hv.chg hH.chg) (by omega)) rfl rfl Tryd.underlying22 sz5 (by first | omega | (simp <;> omega))) ?_;simp only [nf]
  refine pq rfl rfl (qr_load1 rfl Tryd.underlying5 rfl (Sl.cell (Sl.cuth (hv.chg hH.chg) (by omega)) (by first | omega | (simp <;> omega)))) ?_;simp only [nf]
  refine pa ?_;simp only [nf]
  refine plan_nil hH ?_
  clear hH
  intro w20 hH
  refine hK19 _ _ ?_
  (try clear hK19 K19)
  refine wrt [.p 0, .p 1, .p 2, .p 3, .p 4, .p 5] ?_
  refine pm ?_;simp only [nf]
  refine pp rfl rfl (pr_bin rfl rfl (bin_shlc_u64 8 8 (by decide) rfl _)) ?_;simp only [nf]
  refine pm ?_;simp only [nf]
  refine pp rfl rfl (pr_conv rfl (cnv_u8_u64 _ Tryd.underlying5 Tryd.underlying49)) ?_;simp only [nf]
  refine pp rfl rfl (pr_bin rfl rfl (bin_or_u64 _ _)) ?_;simp only [nf]
  refine pa ?_;simp only [nf]
  refine plan_nil hH ?_
  clear hH
  intro w21 hH
  refine hK18 _ _ ?_
  (try clear hK18 K18)
  refine wrt [.p 0, .p 1] ?_
  refine pp rfl rfl (pr_bin rfl rfl (by first | exact bin_add_n (n := 1) (by first | omega | (simp <;> omega)) | exact bin_add_i (by first | omega | (simp <;> omega)) (by first | omega | (simp <;> omega)))) ?_;simp only [nf]
  refine pm ?_;simp only [nf]
  refine plan_nil hH ?_
  clear hH
  intro w22 hH
  (try simp only [Exit.then, Exit.inBlock, ↓reduceIte, Nat.reduceEqDiff])
  refine ⟨8 - (i + 1), ?_, _, rfl, by kernel_rfl, ?_⟩
  · first | omega | (omega)
  simp only [ga]
  refine ⟨i + 1, rfl, ?_, rfl, ?_⟩
  ·
   exact hH
  · first | omega | (omega)
 ·
  (try simp only [cnd] at hc17)
  simp only [List.length_take] at hc17
  refine wp_exit ?_
  (try simp only [Exit.then, Exit.inBlock, ↓reduceIte, Nat.reduceEqDiff])
  refine hK5 _ _ ?_
  (try clear hK5 K5)
  refine wp_seq_k ?_
  intro K23 hK23
  refine wrt [.p 0, .p 1] ?_
  refine pm (pa ?_);simp only [nf]
  refine plan_nil hH ?_
  clear hH
  intro w24 hH
  refine hK23 _ _ ?_
  (try clear hK23 K23)
  refine wp_ret ?_
  (try simp only [Exit.then, Exit.inBlock, ↓reduceIte, Nat.reduceEqDiff])
  refine BP.ret1 rfl rfl ?_
  obtain rfl : i = 8 := by omega
  exact ⟨congrArg V64 (wordF_list l h8), hH.chg⟩
theorem bytes_calls (p : P2) (w : World) : Ret Tryd.prog 66 #[PV p] w fun v w' => v = .agg (arr8 16 (nbP p)) ∧ Chg [] w w' := by
 refine Ret.enter Tryd.func66 rfl ?_
 simp only [Tryd.ntmps66, fe, Nat.reduceAdd, Nat.reduceSub]
 have hH := Hp.start [] w
 refine wp_seq_k ?_
 intro K1 hK1
 refine wrt [.x 0, .x 1] ?_
 refine plan_box rfl rfl hH rfl ?_
 clear hH
 intro b2 w3 hH
 (try simp only [nf, nh, Value.cells, arrB_set] at hH ⊢)
 refine plan_alloc rfl rfl hH zc87 ?_
 clear hH
 intro b4 w5 hH
 (try simp only [nf, nh, Value.cells, arrB_set] at hH ⊢)
 refine plan_nil hH ?_
 clear hH
 intro w6 hH
 refine hK1 _ _ ?_
 (try clear hK1 K1)
 refine wp_seq_k ?_
 intro K7 hK7
 refine wrt [.x 0] ?_
 refine plan_alloc rfl rfl hH zc87 ?_
 clear hH
 intro b8 w9 hH
 (try simp only [nf, nh, Value.cells, arrB_set] at hH ⊢)
 refine plan_nil hH ?_
 clear hH
 intro w10 hH
 refine hK7 _ _ ?_
 (try clear hK7 K7)
 refine wp_seq_k ?_
 intro K11 hK11
 refine wp_seq_k ?_
 intro K12 hK12
 refine wrt [.p 0] ?_
 refine pk 0 ?_;simp only [nf]
 refine plan_nil hH ?_
 clear hH
 intro w13 hH
 refine hK12 _ _ ?_
 (try clear hK12 K12)
 refine wp_block ?_
 refine wp_loopT [5] [4, 6, 7, 8, 9, 10, 11, 12, 13, 14, 15, 16, 17, 18, 19, 20, 21, 22, 23, 24, 25, 26, 27] (fun (n14 : Nat) (vs : List Value) (w' : World) => ∃ (i : Nat), vs = [I64 (i : Nat)] ∧ Hp [] w w' [(some b2, 85, #[V64 p.1, V64 p.2]), (some b4, 87, arr8 16 fun _ => 0), (some b8, 87, arr8 16 fun j => if j < i ∨ 8 ≤ j ∧ j < 8 + i then nbP p j else 0)] ∧ n14 = 8 - i ∧ i ≤ 8) (8 - 0) (by kernel_rfl) ?_ ?_
 ·
  simp only [ga]
  refine ⟨0, rfl, ?_, rfl, ?_⟩
  ·
   exact hH.say 2 rfl (arr8_congr fun j hj => by rw [if_neg (by omega)])
  · first | omega | (omega)
 clear hH
 intro n14 vs15 w16 hR17 d0
 obtain ⟨i, rfl, hH, hn18, hf19⟩ := hR17
 simp only [putAll, putD, List.set_cons_zero, List.set_cons_succ, Nat.zero_add, Nat.reduceAdd]
 refine wp_seq_k ?_
 intro K20 hK20
 refine wrt [.p 0] ?_
 refine pp rfl rfl (pr_bin rfl rfl (by first | exact bin_lss_n (n := 8)  | exact bin_lss_i)) ?_;simp only [nf]
 refine plan_nil hH ?_
 clear hH
 intro w21 hH
 refine hK20 _ _ ?_
 (try clear hK20 K20)
 refine wp_seq_k ?_
 intro K22 hK22
 refine wp_cond_split rfl (fun hc23 => ?_) (fun hc23 => ?_)
 ·
  (try simp only [cnd] at hc23)
  refine wp_skip ?_
  refine hK22 _ _ ?_
  (try clear hK22 K22)
  refine wp_seq_k ?_
  intro K24 hK24
  refine wp_block ?_
  refine wp_seq_k ?_
  intro K25 hK25
  refine wrt [.p 0, .p 1] ?_
  refine pm (pa ?_);simp only [nf]
  refine plan_nil hH ?_
  clear hH
  intro w26 hH
  refine hK25 _ _ ?_
  (try clear hK25 K25)
  refine wp_region_planR (Chg [b8]) (Far.chg _) [.p 0, .p 1, .p 2, .p 3, .p 5, .p 6, .p 7, .p 10, .p 12, .p 13, .p 14, .r 4 (Chg [b8]), .p 8, .p 9, .p 17, .r 11 (Chg [b8]), .p 15, .p 16, .s 18 (Chg [b8]), .p 19, .s 20 (Chg [b8])] (by simp [AllR]) (by kernel_rfl) (by kernel_rfl) (by kernel_rfl) (by kernel_rfl) (fun _ _ _ _ _ h => by first | exact h | exact BP.panic _ _ _ _ _ h) ?_
  refine pm (pm ?_);simp only [nf]
  refine pp rfl rfl (pr_bin rfl rfl (by first | exact bin_add_n (m := 8) (by omega) | exact bin_add_i (by omega) (by omega))) ?_;simp only [nf]
  refine pp rfl rfl (pr_fieldAddr 0 rfl Tryd.underlying85 rfl rfl sz49) ?_;simp only [nf]
  refine pm ?_;simp only [nf]
  refine pp rfl rfl (pr_bin rfl rfl (by first | exact bin_mul_n (m := 8) (by omega) | exact bin_mul_i (by omega) (by omega))) ?_;simp only [nf]
  refine pp rfl rfl (pr_bin rfl rfl (by first | exact bin_sub_n (m := 56) (by omega) (by omega) | exact bin_sub_i (by omega) (by omega))) ?_;simp only [nf]
  refine pp rfl rfl (pr_fieldAddr 1 rfl Tryd.underlying85 rfl rfl sz49) ?_;simp only [nf]
  refine pm ?_;simp only [nf]
  refine pp rfl rfl (pr_bin rfl rfl (by first | exact bin_mul_n (m := 8) (by omega) | exact bin_mul_i (by omega) (by omega))) ?_;simp only [nf]
  refine pp rfl rfl (pr_bin rfl rfl (by first | exact bin_sub_n (m := 56) (by omega) (by omega) | exact bin_sub_i (by omega) (by omega))) ?_;simp only [nf]
  refine plan_r rfl rfl (rr_load1 (fun w' hw => hH.far 0 rfl hw (by simp only [List.mem_cons, List.not_mem_nil, or_false, not_or]; exact hH.other (i := 2) rfl (j := 0) rfl (by decide) rfl)) rfl Tryd.underlying49 rfl rfl) ?_
  (try simp only [nf])
  refine pp rfl rfl (pr_bin rfl rfl (bin_shr_u64 _ _ _)) ?_;simp only [nf]
  refine pp rfl rfl (pr_conv rfl (cnv_u64_u8 _ Tryd.underlying49 Tryd.underlying5)) ?_;simp only [nf]
  refine pp rfl rfl (pr_idxA1 rfl rfl Tryd.underlying87 sz5 (by omega)) ?_;simp only [nf]
  refine plan_r rfl rfl (rr_load1 (fun w' hw => hH.far 0 rfl hw (by simp only [List.mem_cons, List.not_mem_nil, or_false, not_or]; exact hH.other (i := 2) rfl (j := 0) rfl (by decide) rfl)) rfl Tryd.underlying49 rfl rfl) ?_
  (try simp only [nf])
  refine pp rfl rfl (pr_bin rfl rfl (bin_shr_u64 _ _ _)) ?_;simp only [nf]
  refine pp rfl rfl (pr_conv rfl (cnv_u64_u8 _ Tryd.underlying49 Tryd.underlying5)) ?_;simp only [nf]
  refine plan_store1s 2 rfl rfl hH rfl rfl rfl rfl sz5 (by simp <;> omega) (by simp) ?_
  clear hH
  intro w27 hH
  (try simp only [nf, nh, Value.cells, arrB_set] at hH ⊢)
  refine pp rfl rfl (pr_idxA1 rfl rfl Tryd.underlying87 sz5 (by omega)) ?_;simp only [nf]
  refine plan_store1s 2 rfl rfl hH rfl rfl rfl rfl sz5 (by simp <;> omega) (by simp) ?_
  clear hH
  intro w28 hH
  (try simp only [nf, nh, Value.cells, arrB_set] at hH ⊢)
  refine plan_nil hH ?_
  clear hH
  intro w29 hH
  refine hK24 _ _ ?_
  (try clear hK24 K24)
  refine wrt [.p 0, .p 1] ?_
  refine pp rfl rfl (pr_bin rfl rfl (by first | exact bin_add_n (n := 1) (by omega) | exact bin_add_i (by omega) (by omega))) ?_;simp only [nf]
  refine pm ?_;simp only [nf]
  refine plan_nil hH ?_
  clear hH
  intro w30 hH
  (try simp only [Exit.then, Exit.inBlock, ↓reduceIte, Nat.reduceEqDiff])
  refine ⟨8 - (i + 1), ?_, _, rfl, by kernel_rfl, ?_⟩
  · first | omega | (omega)
  simp only [ga]
  refine ⟨i + 1, rfl, ?_, rfl, ?_⟩
  ·
   exact hH.say 2 rfl (arr8_congr fun j hj => nb_step p i j (by omega) hj)
  · first | omega | (omega)
 ·
  (try simp only [cnd] at hc23)
  refine wp_exit ?_
  (try simp only [Exit.then, Exit.inBlock, ↓reduceIte, Nat.reduceEqDiff])
  refine hK11 _ _ ?_
  (try clear hK11 K11)
  refine wp_seq_k ?_
  intro K31 hK31
  refine wrt [.q 0, .e 1] ?_
  refine pq rfl rfl (qr_loadW rfl (hH.blk 2 rfl) Tryd.underlying87 rfl sz87 (by simp)) ?_;simp only [nf]
  refine plan_storeW 1 rfl rfl hH rfl rfl rfl one_arr8 sz87 (by simp) (by simp) ?_
  clear hH
  intro w32 hH
  (try simp only [nf, nh, Value.cells, arrB_set] at hH ⊢)
  refine plan_nil hH ?_
  clear hH
  intro w33 hH
  refine hK31 _ _ ?_
  (try clear hK31 K31)
  refine wp_ret ?_
  (try simp only [Exit.then, Exit.inBlock, ↓reduceIte, Nat.reduceEqDiff])
  refine BP.retc rfl rfl (hH.blk 1 rfl) Tryd.underlying87 rfl sz87 (by simp) ?_
  obtain rfl : i = 8 := by omega
  exact ⟨by rw [arr8_congr fun j hj => if_pos (by omega)], hH.chg⟩
theorem of_calls (f : Nat → UInt8) (w : World) : Ret Tryd.prog 44 #[.agg (arr8 16 f)] w fun v w' => v = PV (ofP f) ∧ Chg [] w w' := by
 refine Ret.enter Tryd.func44 rfl ?_
 simp only [Tryd.ntmps44, fe, Nat.reduceAdd, Nat.reduceSub]
 have hH := Hp.start [] w
 refine wp_seq_k ?_
 intro K1 hK1
 refine wrt [.x 0, .x 1] ?_
 refine plan_box rfl rfl hH rfl ?_
 clear hH
 intro b2 w3 hH
 (try simp only [nf, nh, Value.cells, arrB_set] at hH ⊢)
 refine plan_alloc rfl rfl hH zc85 ?_
 clear hH
 intro b4 w5 hH
 (try simp only [nf, nh, Value.cells, arrB_set] at hH ⊢)
 refine plan_nil hH ?_
 clear hH
 intro w6 hH
 refine hK1 _ _ ?_
 (try clear hK1 K1)
 refine wp_seq_k ?_
 intro K7 hK7
 refine wrp [.p 0, .p 2, .q 1, .q 3, .p 4, .e 5] ?_
 refine pp rfl rfl (pr_slice_arr_h (h := 8) rfl rfl Tryd.underlying87 sz5 (by omega)) ?_;simp only [nf]
 (try simp only [Nat.mul_one, Nat.zero_add, Nat.add_sub_cancel_left])
 refine pp rfl rfl (pr_slice_arr_l1 (l := 8) rfl rfl Tryd.underlying87 sz5 (by omega)) ?_;simp only [nf]
 (try simp only [Nat.mul_one, Nat.zero_add, Nat.add_sub_cancel_left])
 refine pq rfl rfl (qr_call cf63 (fun w' hw => word_calls _ _ w' ((Sl.of_arr8 (hH.blk 0 rfl) (by omega) (by omega)).chg hw) (by simp)) rfl) ?_;simp only [nf]
 refine pq rfl rfl (qr_call cf63 (fun w' hw => word_calls _ _ w' ((Sl.of_arr8 (hH.blk 0 rfl) (by omega) (by omega)).chg hw) (by simp)) rfl) ?_;simp only [nf]
 refine pp rfl rfl (pr_build (by rfl) (bd85_0_1 _ _)) ?_;simp only [nf]
 refine plan_storeW 1 rfl rfl hH rfl rfl rfl (by simp [Value.oneCell']) sz85 (by simp) (by simp) ?_
 clear hH
 intro w8 hH
 (try simp only [nf, nh, Value.cells, arrB_set] at hH ⊢)
 refine plan_nil hH ?_
 clear hH
 intro w9 hH
 refine hK7 _ _ ?_
 (try clear hK7 K7)
 refine wp_ret ?_
 (try simp only [Exit.then, Exit.inBlock, ↓reduceIte, Nat.reduceEqDiff])
 refine BP.retc rfl rfl (hH.blk 1 rfl) Tryd.underlying85 rfl sz85 (by simp) ?_
 exact ⟨rfl, hH.chg⟩
theorem gtimes_calls (a b : P2) (w : World) : Ret Tryd.prog 65 #[PV a, PV b] w fun v w' => v = PV (mulP a b) ∧ Chg [] w w' := by
 refine Ret.enter Tryd.func65 rfl ?_
 simp only [Tryd.ntmps65, fe, Nat.reduceAdd, Nat.reduceSub]
 have hH := Hp.start [] w
 refine wp_seq_k ?_
 intro K1 hK1
 refine wrt [.x 0, .x 1, .x 2] ?_
 refine plan_box rfl rfl hH rfl ?_
 clear hH
 intro b2 w3 hH
 (try simp only [nf, nh, Value.cells, arrB_set] at hH ⊢)
 refine plan_box rfl rfl hH rfl ?_
 clear hH
 intro b4 w5 hH
 (try simp only [nf, nh, Value.cells, arrB_set] at hH ⊢)
 refine plan_alloc rfl rfl hH zc85 ?_
 clear hH
 intro b6 w7 hH
 (try simp only [nf, nh, Value.cells, arrB_set] at hH ⊢)
 refine plan_nil hH ?_
 clear hH
 intro w8 hH
 refine hK1 _ _ ?_
 (try clear hK1 K1)
 refine wp_seq_k ?_
 intro K9 hK9
 refine wrt [.x 0] ?_
 refine plan_alloc rfl rfl hH zc85 ?_
 clear hH
 intro b10 w11 hH
 (try simp only [nf, nh, Value.cells, arrB_set] at hH ⊢)
 refine plan_nil hH ?_
 clear hH
 intro w12 hH
 refine hK9 _ _ ?_
 (try clear hK9 K9)
 refine wp_seq_k ?_
 intro K13 hK13
 refine wp_seq_k ?_
 intro K14 hK14
 refine wrt [.p 0] ?_
 refine pk 0 ?_;simp only [nf]
 refine plan_nil hH ?_
 clear hH
 intro w15 hH
 refine hK14 _ _ ?_
 (try clear hK14 K14)
 refine wp_block ?_
 refine wp_loopT [10] [6, 7, 8, 9, 11, 12, 13, 14, 15, 16, 17, 18, 19, 20, 21, 22, 23, 24, 25, 26, 27, 28, 29, 30, 31, 32, 33, 34, 35, 36, 37, 38, 39, 40, 41, 42, 43, 44, 45, 46, 47, 48, 49, 50, 51, 52, 53, 54, 55, 56, 57, 58, 59, 60, 61] (fun (n16 : Nat) (vs : List Value) (w' : World) => ∃ (i : Nat), vs = [I64 (i : Nat)] ∧ Hp [] w w' [(some b2, 85, #[V64 a.1, V64 a.2]), (some b4, 85, #[V64 (bW b i).1, V64 (bW b i).2]), (some b6, 85, #[V64 0, V64 0]), (some b10, 85, #[V64 (zW a b i).1, V64 (zW a b i).2])] ∧ n16 = 128 - i ∧ i ≤ 128) (128 - 0) (by kernel_rfl) ?_ ?_
 ·
  simp only [ga]
  refine ⟨0, rfl, ?_, rfl, ?_⟩
  ·
   exact hH
  · first | omega | (omega)
 clear hH
 intro n16 vs17 w18 hR19 d0
 obtain ⟨i, rfl, hH, hn20, hf21⟩ := hR19
 simp only [putAll, putD, List.set_cons_zero, List.set_cons_succ, Nat.zero_add, Nat.reduceAdd]
 refine wp_seq_k ?_
 intro K22 hK22
 refine wrt [.p 0] ?_
 refine pp rfl rfl (pr_bin rfl rfl (by first | exact bin_lss_n (n := 128)  | exact bin_lss_i)) ?_;simp only [nf]
 refine plan_nil hH ?_
 clear hH
 intro w23 hH
 refine hK22 _ _ ?_
 (try clear hK22 K22)
 refine wp_seq_k ?_
 intro K24 hK24
 refine wp_cond_split rfl (fun hc25 => ?_) (fun hc25 => ?_)
 ·
  (try simp only [cnd] at hc25)
  refine wp_skip ?_
  refine hK24 _ _ ?_
  (try clear hK24 K24)
  refine wp_seq_k ?_
  intro K26 hK26
  refine wp_block ?_
  refine wp_seq_k ?_
  intro K27 hK27
  refine wrt [.p 0, .p 1] ?_
  refine pm (pa ?_);simp only [nf]
  refine plan_nil hH ?_
  clear hH
  intro w28 hH
  refine hK27 _ _ ?_
  (try clear hK27 K27)
  refine wp_seq_k ?_
  intro K29 hK29
  refine wrt [.p 0, .q 1, .p 2] ?_
  refine pp rfl rfl (pr_fieldAddr 0 rfl Tryd.underlying85 rfl rfl sz49) ?_;simp only [nf]
  refine pq rfl rfl (qr_load1 rfl Tryd.underlying49 rfl ((hH.blk 0 rfl).cell rfl)) ?_;simp only [nf]
  refine pa ?_;simp only [nf]
  refine plan_nil hH ?_
  clear hH
  intro w30 hH
  refine hK29 _ _ ?_
  (try clear hK29 K29)
  refine wp_seq_k ?_
  intro K31 hK31
  refine wp_seq_k ?_
  intro K32 hK32
  refine wrt [.p 0, .p 1] ?_
  refine pm ?_;simp only [nf]
  refine pp rfl rfl (pr_bin rfl rfl (by first | exact bin_geq_n (n := 64)  | exact bin_geq_i)) ?_;simp only [nf]
  refine plan_nil hH ?_
  clear hH
  intro w33 hH
  refine hK32 _ _ ?_
  (try clear hK32 K32)
  refine wp_cond_split rfl (fun hc34 => ?_) (fun hc34 => ?_)
  ·
   (try simp only [cnd] at hc34)
   refine wrt [.p 0, .q 1, .p 2] ?_
   refine pp rfl rfl (pr_fieldAddr 1 rfl Tryd.underlying85 rfl rfl sz49) ?_;simp only [nf]
   refine pq rfl rfl (qr_load1 rfl Tryd.underlying49 rfl ((hH.blk 0 rfl).cell rfl)) ?_;simp only [nf]
   refine pa ?_;simp only [nf]
   refine plan_nil hH ?_
   clear hH
   intro w35 hH
   refine hK31 _ _ ?_
   (try clear hK31 K31)
   refine wp_seq_k ?_
   intro K36 hK36
   refine wrt [.p 0, .p 1, .p 2, .p 3, .p 4, .p 5, .p 6, .p 7] ?_
   refine pm (pm ?_);simp only [nf]
   refine pp rfl rfl (pr_bin rfl rfl (by first | exact bin_rem_n (n := 64) (by omega))) ?_;simp only [nf]
   refine pp rfl rfl (pr_bin rfl rfl (by first | exact bin_sub_n (m := 63) (by omega) (by omega) | exact bin_sub_i (by omega) (by omega))) ?_;simp only [nf]
   refine pp rfl rfl (pr_bin rfl rfl (bin_shr_u64 _ _ _)) ?_;simp only [nf]
   refine pp rfl rfl (pr_bin rfl rfl (bin_and_u64 _ 1)) ?_;simp only [nf]
   refine pp rfl rfl (pr_neg64 rfl) ?_;simp only [nf]
   refine pa ?_;simp only [nf]
   refine plan_nil hH ?_
   clear hH
   intro w37 hH
   refine hK36 _ _ ?_
   (try clear hK36 K36)
   refine wp_seq_k ?_
   intro K38 hK38
   refine wrt [.p 0, .q 1, .p 2, .q 3, .p 4, .p 5, .p 6, .p 7, .e 8] ?_
   refine pp rfl rfl (pr_fieldAddr 0 rfl Tryd.underlying85 rfl rfl sz49) ?_;simp only [nf]
   refine pq rfl rfl (qr_load1 rfl Tryd.underlying49 rfl ((hH.blk 3 rfl).cell rfl)) ?_;simp only [nf]
   refine pp rfl rfl (pr_fieldAddr 0 rfl Tryd.underlying85 rfl rfl sz49) ?_;simp only [nf]
   refine pq rfl rfl (qr_load1 rfl Tryd.underlying49 rfl ((hH.blk 1 rfl).cell rfl)) ?_;simp only [nf]
   refine pm ?_;simp only [nf]
   refine pp rfl rfl (pr_bin rfl rfl (bin_and_u64 _ _)) ?_;simp only [nf]
   refine pp rfl rfl (pr_bin rfl rfl (bin_xor_u64 _ _)) ?_;simp only [nf]
   refine pp rfl rfl (pr_fieldAddr 0 rfl Tryd.underlying85 rfl rfl sz49) ?_;simp only [nf]
   refine plan_store1 3 rfl rfl hH rfl rfl rfl rfl sz49 (by simp <;> omega) ?_
   clear hH
   intro w39 hH
   (try simp only [nf, nh, Value.cells, arrB_set] at hH ⊢)
   refine plan_nil hH ?_
   clear hH
   intro w40 hH
   refine hK38 _ _ ?_
   (try clear hK38 K38)
   refine wp_seq_k ?_
   intro K41 hK41
   refine wrt [.p 0, .q 1, .p 2, .q 3, .p 4, .p 5, .p 6, .p 7, .e 8] ?_
   refine pp rfl rfl (pr_fieldAddr 1 rfl Tryd.underlying85 rfl rfl sz49) ?_;simp only [nf]
   refine pq rfl rfl (qr_load1 rfl Tryd.underlying49 rfl ((hH.blk 3 rfl).cell rfl)) ?_;simp only [nf]
   refine pp rfl rfl (pr_fieldAddr 1 rfl Tryd.underlying85 rfl rfl sz49) ?_;simp only [nf]
   refine pq rfl rfl (qr_load1 rfl Tryd.underlying49 rfl ((hH.blk 1 rfl).cell rfl)) ?_;simp only [nf]
   refine pm ?_;simp only [nf]
   refine pp rfl rfl (pr_bin rfl rfl (bin_and_u64 _ _)) ?_;simp only [nf]
   refine pp rfl rfl (pr_bin rfl rfl (bin_xor_u64 _ _)) ?_;simp only [nf]
   refine pp rfl rfl (pr_fieldAddr 1 rfl Tryd.underlying85 rfl rfl sz49) ?_;simp only [nf]
   refine plan_store1 3 rfl rfl hH rfl rfl rfl rfl sz49 (by simp <;> omega) ?_
   clear hH
   intro w42 hH
   (try simp only [nf, nh, Value.cells, arrB_set] at hH ⊢)
   refine plan_nil hH ?_
   clear hH
   intro w43 hH
   refine hK41 _ _ ?_
   (try clear hK41 K41)
   refine wp_seq_k ?_
   intro K44 hK44
   refine wrt [.p 0, .q 1, .p 2, .p 3, .p 4] ?_
   refine pp rfl rfl (pr_fieldAddr 1 rfl Tryd.underlying85 rfl rfl sz49) ?_;simp only [nf]
   refine pq rfl rfl (qr_load1 rfl Tryd.underlying49 rfl ((hH.blk 1 rfl).cell rfl)) ?_;simp only [nf]
   refine pp rfl rfl (pr_bin rfl rfl (bin_and_u64 _ 1)) ?_;simp only [nf]
   refine pp rfl rfl (pr_neg64 rfl) ?_;simp only [nf]
   refine pa ?_;simp only [nf]
   refine plan_nil hH ?_
   clear hH
   intro w45 hH
   refine hK44 _ _ ?_
   (try clear hK44 K44)
   refine wp_seq_k ?_
   intro K46 hK46
   refine wrt [.p 0, .q 1, .p 2, .p 3, .q 4, .p 5, .p 6, .p 7, .e 8] ?_
   refine pp rfl rfl (pr_fieldAddr 1 rfl Tryd.underlying85 rfl rfl sz49) ?_;simp only [nf]
   refine pq rfl rfl (qr_load1 rfl Tryd.underlying49 rfl ((hH.blk 1 rfl).cell rfl)) ?_;simp only [nf]
   refine pp rfl rfl (pr_bin rfl rfl (bin_shrc_u64 1 1 (by decide) rfl _)) ?_;simp only [nf]
   refine pp rfl rfl (pr_fieldAddr 0 rfl Tryd.underlying85 rfl rfl sz49) ?_;simp only [nf]
   refine pq rfl rfl (qr_load1 rfl Tryd.underlying49 rfl ((hH.blk 1 rfl).cell rfl)) ?_;simp only [nf]
   refine pp rfl rfl (pr_bin rfl rfl (bin_shlc_u64 63 63 (by decide) rfl _)) ?_;simp only [nf]
   refine pp rfl rfl (pr_bin rfl rfl (bin_or_u64 _ _)) ?_;simp only [nf]
   refine pp rfl rfl (pr_fieldAddr 1 rfl Tryd.underlying85 rfl rfl sz49) ?_;simp only [nf]
   refine plan_store1 1 rfl rfl hH rfl rfl rfl rfl sz49 (by simp <;> omega) ?_
   clear hH
   intro w47 hH
   (try simp only [nf, nh, Value.cells, arrB_set] at hH ⊢)
   refine plan_nil hH ?_
   clear hH
   intro w48 hH
   refine hK46 _ _ ?_
   (try clear hK46 K46)
   refine wrt [.p 0, .q 1, .p 2, .p 3, .p 4, .p 5, .p 6, .e 7] ?_
   refine pp rfl rfl (pr_fieldAddr 0 rfl Tryd.underlying85 rfl rfl sz49) ?_;simp only [nf]
   refine pq rfl rfl (qr_load1 rfl Tryd.underlying49 rfl ((hH.blk 1 rfl).cell rfl)) ?_;simp only [nf]
   refine pp rfl rfl (pr_bin rfl rfl (bin_shrc_u64 1 1 (by decide) rfl _)) ?_;simp only [nf]
   refine pm ?_;simp only [nf]
   refine pp rfl rfl (pr_bin rfl rfl (bin_and_u64 _ 16212958658533785600)) ?_;simp only [nf]
   refine pp rfl rfl (pr_bin rfl rfl (bin_xor_u64 _ _)) ?_;simp only [nf]
   refine pp rfl rfl (pr_fieldAddr 0 rfl Tryd.underlying85 rfl rfl sz49) ?_;simp only [nf]
   refine plan_store1 1 rfl rfl hH rfl rfl rfl rfl sz49 (by simp <;> omega) ?_
   clear hH
   intro w49 hH
   (try simp only [nf, nh, Value.cells, arrB_set] at hH ⊢)
   refine plan_nil hH ?_
   clear hH
   intro w50 hH
   refine hK26 _ _ ?_
   (try clear hK26 K26)
   refine wrt [.p 0, .p 1] ?_
   refine pp rfl rfl (pr_bin rfl rfl (by first | exact bin_add_n (n := 1) (by omega) | exact bin_add_i (by omega) (by omega))) ?_;simp only [nf]
   refine pm ?_;simp only [nf]
   refine plan_nil hH ?_
   clear hH
   intro w51 hH
   (try simp only [Exit.then, Exit.inBlock, ↓reduceIte, Nat.reduceEqDiff])
   refine ⟨128 - (i + 1), ?_, _, rfl, by kernel_rfl, ?_⟩
   · first | omega | (omega)
   simp only [ga]
   refine ⟨i + 1, rfl, ?_, rfl, ?_⟩
   ·
    refine hH.cast ?_
    simp only [zW, bW, mskW]
    rw [if_pos (by omega : 64 ≤ i)]
   · first | omega | (omega)
  ·
   (try simp only [cnd] at hc34)
   refine wp_skip ?_
   refine hK31 _ _ ?_
   (try clear hK31 K31)
   refine wp_seq_k ?_
   intro K52 hK52
   refine wrt [.p 0, .p 1, .p 2, .p 3, .p 4, .p 5, .p 6, .p 7] ?_
   refine pm (pm ?_);simp only [nf]
   refine pp rfl rfl (pr_bin rfl rfl (by first | exact bin_rem_n (n := 64) (by omega))) ?_;simp only [nf]
   refine pp rfl rfl (pr_bin rfl rfl (by first | exact bin_sub_n (m := 63) (by omega) (by omega) | exact bin_sub_i (by omega) (by omega))) ?_;simp only [nf]
   refine pp rfl rfl (pr_bin rfl rfl (bin_shr_u64 _ _ _)) ?_;simp only [nf]
   refine pp rfl rfl (pr_bin rfl rfl (bin_and_u64 _ 1)) ?_;simp only [nf]
   refine pp rfl rfl (pr_neg64 rfl) ?_;simp only [nf]
   refine pa ?_;simp only [nf]
   refine plan_nil hH ?_
   clear hH
   intro w53 hH
   refine hK52 _ _ ?_
   (try clear hK52 K52)
   refine wp_seq_k ?_
   intro K54 hK54
   refine wrt [.p 0, .q 1, .p 2, .q 3, .p 4, .p 5, .p 6, .p 7, .e 8] ?_
   refine pp rfl rfl (pr_fieldAddr 0 rfl Tryd.underlying85 rfl rfl sz49) ?_;simp only [nf]
   refine pq rfl rfl (qr_load1 rfl Tryd.underlying49 rfl ((hH.blk 3 rfl).cell rfl)) ?_;simp only [nf]
   refine pp rfl rfl (pr_fieldAddr 0 rfl Tryd.underlying85 rfl rfl sz49) ?_;simp only [nf]
   refine pq rfl rfl (qr_load1 rfl Tryd.underlying49 rfl ((hH.blk 1 rfl).cell rfl)) ?_;simp only [nf]
   refine pm ?_;simp only [nf]
   refine pp rfl rfl (pr_bin rfl rfl (bin_and_u64 _ _)) ?_;simp only [nf]
   refine pp rfl rfl (pr_bin rfl rfl (bin_xor_u64 _ _)) ?_;simp only [nf]
   refine pp rfl rfl (pr_fieldAddr 0 rfl Tryd.underlying85 rfl rfl sz49) ?_;simp only [nf]
   refine plan_store1 3 rfl rfl hH rfl rfl rfl rfl sz49 (by simp <;> omega) ?_
   clear hH
   intro w55 hH
   (try simp only [nf, nh, Value.cells, arrB_set] at hH ⊢)
   refine plan_nil hH ?_
   clear hH
   intro w56 hH
   refine hK54 _ _ ?_
   (try clear hK54 K54)
   refine wp_seq_k ?_
   intro K57 hK57
   refine wrt [.p 0, .q 1, .p 2, .q 3, .p 4, .p 5, .p 6, .p 7, .e 8] ?_
   refine pp rfl rfl (pr_fieldAddr 1 rfl Tryd.underlying85 rfl rfl sz49) ?_;simp only [nf]
   refine pq rfl rfl (qr_load1 rfl Tryd.underlying49 rfl ((hH.blk 3 rfl).cell rfl)) ?_;simp only [nf]
   refine pp rfl rfl (pr_fieldAddr 1 rfl Tryd.underlying85 rfl rfl sz49) ?_;simp only [nf]
   refine pq rfl rfl (qr_load1 rfl Tryd.underlying49 rfl ((hH.blk 1 rfl).cell rfl)) ?_;simp only [nf]
   refine pm ?_;simp only [nf]
   refine pp rfl rfl (pr_bin rfl rfl (bin_and_u64 _ _)) ?_;simp only [nf]
   refine pp rfl rfl (pr_bin rfl rfl (bin_xor_u64 _ _)) ?_;simp only [nf]
   refine pp rfl rfl (pr_fieldAddr 1 rfl Tryd.underlying85 rfl rfl sz49) ?_;simp only [nf]
   refine plan_store1 3 rfl rfl hH rfl rfl rfl rfl sz49 (by simp <;> omega) ?_
   clear hH
   intro w58 hH
   (try simp only [nf, nh, Value.cells, arrB_set] at hH ⊢)
   refine plan_nil hH ?_
   clear hH
   intro w59 hH
   refine hK57 _ _ ?_
   (try clear hK57 K57)
   refine wp_seq_k ?_
   intro K60 hK60
   refine wrt [.p 0, .q 1, .p 2, .p 3, .p 4] ?_
   refine pp rfl rfl (pr_fieldAddr 1 rfl Tryd.underlying85 rfl rfl sz49) ?_;simp only [nf]
   refine pq rfl rfl (qr_load1 rfl Tryd.underlying49 rfl ((hH.blk 1 rfl).cell rfl)) ?_;simp only [nf]
   refine pp rfl rfl (pr_bin rfl rfl (bin_and_u64 _ 1)) ?_;simp only [nf]
   refine pp rfl rfl (pr_neg64 rfl) ?_;simp only [nf]
   refine pa ?_;simp only [nf]
   refine plan_nil hH ?_
   clear hH
   intro w61 hH
   refine hK60 _ _ ?_
   (try clear hK60 K60)
   refine wp_seq_k ?_
   intro K62 hK62
   refine wrt [.p 0, .q 1, .p 2, .p 3, .q 4, .p 5, .p 6, .p 7, .e 8] ?_
   refine pp rfl rfl (pr_fieldAddr 1 rfl Tryd.underlying85 rfl rfl sz49) ?_;simp only [nf]
   refine pq rfl rfl (qr_load1 rfl Tryd.underlying49 rfl ((hH.blk 1 rfl).cell rfl)) ?_;simp only [nf]
   refine pp rfl rfl (pr_bin rfl rfl (bin_shrc_u64 1 1 (by decide) rfl _)) ?_;simp only [nf]
   refine pp rfl rfl (pr_fieldAddr 0 rfl Tryd.underlying85 rfl rfl sz49) ?_;simp only [nf]
   refine pq rfl rfl (qr_load1 rfl Tryd.underlying49 rfl ((hH.blk 1 rfl).cell rfl)) ?_;simp only [nf]
   refine pp rfl rfl (pr_bin rfl rfl (bin_shlc_u64 63 63 (by decide) rfl _)) ?_;simp only [nf]
   refine pp rfl rfl (pr_bin rfl rfl (bin_or_u64 _ _)) ?_;simp only [nf]
   refine pp rfl rfl (pr_fieldAddr 1 rfl Tryd.underlying85 rfl rfl sz49) ?_;simp only [nf]
   refine plan_store1 1 rfl rfl hH rfl rfl rfl rfl sz49 (by simp <;> omega) ?_
   clear hH
   intro w63 hH
   (try simp only [nf, nh, Value.cells, arrB_set] at hH ⊢)
   refine plan_nil hH ?_
   clear hH
   intro w64 hH
   refine hK62 _ _ ?_
   (try clear hK62 K62)
   refine wrt [.p 0, .q 1, .p 2, .p 3, .p 4, .p 5, .p 6, .e 7] ?_
   refine pp rfl rfl (pr_fieldAddr 0 rfl Tryd.underlying85 rfl rfl sz49) ?_;simp only [nf]
   refine pq rfl rfl (qr_load1 rfl Tryd.underlying49 rfl ((hH.blk 1 rfl).cell rfl)) ?_;simp only [nf]
   refine pp rfl rfl (pr_bin rfl rfl (bin_shrc_u64 1 1 (by decide) rfl _)) ?_;simp only [nf]
   refine pm ?_;simp only [nf]
   refine pp rfl rfl (pr_bin rfl rfl (bin_and_u64 _ 16212958658533785600)) ?_;simp only [nf]
   refine pp rfl rfl (pr_bin rfl rfl (bin_xor_u64 _ _)) ?_;simp only [nf]
   refine pp rfl rfl (pr_fieldAddr 0 rfl Tryd.underlying85 rfl rfl sz49) ?_;simp only [nf]
   refine plan_store1 1 rfl rfl hH rfl rfl rfl rfl sz49 (by simp <;> omega) ?_
   clear hH
   intro w65 hH
   (try simp only [nf, nh, Value.cells, arrB_set] at hH ⊢)
   refine plan_nil hH ?_
   clear hH
   intro w66 hH
   refine hK26 _ _ ?_
   (try clear hK26 K26)
   refine wrt [.p 0, .p 1] ?_
   refine pp rfl rfl (pr_bin rfl rfl (by first | exact bin_add_n (n := 1) (by omega) | exact bin_add_i (by omega) (by omega))) ?_;simp only [nf]
   refine pm ?_;simp only [nf]
   refine plan_nil hH ?_
   clear hH
   intro w67 hH
   (try simp only [Exit.then, Exit.inBlock, ↓reduceIte, Nat.reduceEqDiff])
   refine ⟨128 - (i + 1), ?_, _, rfl, by kernel_rfl, ?_⟩
   · first | omega | (omega)
   simp only [ga]
   refine ⟨i + 1, rfl, ?_, rfl, ?_⟩
   ·
    refine hH.cast ?_
    simp only [zW, bW, mskW]
    rw [if_neg (by omega : ¬ 64 ≤ i)]
   · first | omega | (omega)
 ·
  (try simp only [cnd] at hc25)
  refine wp_exit ?_
  (try simp only [Exit.then, Exit.inBlock, ↓reduceIte, Nat.reduceEqDiff])
  refine hK13 _ _ ?_
  (try clear hK13 K13)
  refine wp_seq_k ?_
  intro K68 hK68
  refine wrt [.q 0, .e 1] ?_
  refine pq rfl rfl (qr_loadW rfl (hH.blk 3 rfl) Tryd.underlying85 rfl sz85 (by simp)) ?_;simp only [nf]
  refine plan_storeW 2 rfl rfl hH rfl rfl rfl (by simp [Value.oneCell']) sz85 (by simp) (by simp) ?_
  clear hH
  intro w69 hH
  (try simp only [nf, nh, Value.cells, arrB_set] at hH ⊢)
  refine plan_nil hH ?_
  clear hH
  intro w70 hH
  refine hK68 _ _ ?_
  (try clear hK68 K68)
  refine wp_ret ?_
  (try simp only [Exit.then, Exit.inBlock, ↓reduceIte, Nat.reduceEqDiff])
  refine BP.retc rfl rfl (hH.blk 2 rfl) Tryd.underlying85 rfl sz85 (by simp) ?_
  obtain rfl : i = 128 := by omega
  exact ⟨rfl, hH.chg⟩
end Go.Proofs.YtmoaddicejohgaaDoor
set_option linter.unusedSimpArgs false
set_option linter.unusedVariables false
set_option maxRecDepth 100000
set_option maxHeartbeats 4000000
namespace Go.Proofs.YtmoaddicejohgaaDoor
open Go
open List (getD_cons_zero getD_cons_succ set_cons_zero set_cons_succ)
theorem copy_blk (l : List UInt8) (k j : Nat) (hj : j < 16) : (if 0 ≤ j ∧ j < min (l.drop (16 * k)).length 16 then (l.drop (16 * k)).getD (j - 0) 0 else 0) = l.getD (16 * k + j) 0 := by
  rw [Nat.sub_zero]
  by_cases h : j < min (l.drop (16 * k)).length 16
  · rw [if_pos ⟨Nat.zero_le _, h⟩]
    simp only [List.getD, List.getElem?_drop]
  · rw [if_neg (by omega)]
    rw [List.length_drop] at h
    simp only [List.getD]
    rw [List.getElem?_eq_none (by omega)]; rfl
theorem drop_blk (l : List UInt8) (k : Nat) : (l.drop (16 * k)).drop (min (l.drop (16 * k)).length 16) = l.drop (16 * (k + 1)) := by
  rw [List.drop_drop]
  by_cases h : 16 * k + 16 ≤ l.length
  · rw [List.length_drop, show 16 * k + min (l.length - 16 * k) 16 = 16 * (k + 1) by omega]
  · rw [List.length_drop, List.drop_eq_nil_of_le (by omega), List.drop_eq_nil_of_le (by omega)]
def orD (a b : List UInt8) : Nat → UInt8
  | 0 => 0
  | n + 1 => orD a b n ||| (a.getD n 0 ^^^ b.getD n 0)
theorem or8_zero {x y : UInt8} : x ||| y = 0 ↔ x = 0 ∧ y = 0 := by
  constructor
  · intro h
    have h1 := congrArg UInt8.toNat h
    rw [UInt8.toNat_or] at h1
    have h1 : x.toNat ||| y.toNat = 0 := h1
    rw [Nat.or_eq_zero_iff] at h1
    exact ⟨UInt8.toNat_inj.1 h1.1, UInt8.toNat_inj.1 h1.2⟩
  · rintro ⟨rfl, rfl⟩; rfl
theorem xor8_zero {x y : UInt8} : x ^^^ y = 0 ↔ x = y := by
  constructor
  · intro h
    have := congrArg (· ^^^ y) h
    simpa [UInt8.xor_assoc] using this
  · rintro rfl; exact UInt8.xor_self
theorem orD_zero (a b : List UInt8) : ∀ n, orD a b n = 0 ↔ ∀ i, i < n → a.getD i 0 = b.getD i 0
  | 0 => ⟨fun _ i hi => absurd hi (Nat.not_lt_zero _), fun _ => rfl⟩
  | n + 1 => by
    rw [orD, or8_zero, orD_zero a b n, xor8_zero]
    constructor
    · rintro ⟨h1, h2⟩ i hi
      by_cases e : i = n
      · subst e; exact h2
      · exact h1 i (by omega)
    · intro h
      exact ⟨fun i hi => h i (by omega), h n (by omega)⟩
theorem same_is {a b : List UInt8} (h : a.length = b.length) : (orD a b a.length == 0) = (a == b) := by
  rw [Bool.eq_iff_iff, beq_iff_eq, beq_iff_eq, orD_zero]
  constructor
  · intro h1
    apply List.ext_getElem h
    intro i h2 h3
    have := h1 i h2
    simpa [List.getD, h2, h3] using this
  · rintro rfl i _; rfl
def gctr (nl : List UInt8) (n : UInt8) (i : Nat) : UInt8 := (nl ++ [0, 0, 0, n]).getD i 0
def sealP (h : P2) (al cl : List UInt8) : P2 :=
  mulP ((takeP h (takeP h (0, 0) al (blocks al)) cl (blocks cl)).1 ^^^ UInt64.ofNat al.length <<< 3, (takeP h (takeP h (0, 0) al (blocks al)) cl (blocks cl)).2 ^^^ UInt64.ofNat cl.length <<< 3) h
def sealL (kf : Nat → UInt8) (h : P2) (nl al cl : List UInt8) : List UInt8 := strm kf (gctr nl 1) 0 ((List.range 16).map (nbP (sealP h al cl))) 16
def hidL (kf : Nat → UInt8) (nl bl : List UInt8) : List UInt8 := strm kf (gctr nl 2) 0 bl bl.length
def sealedL (kf : Nat → UInt8) (h : P2) (nl al bl : List UInt8) : List UInt8 := hidL kf nl bl ++ sealL kf h nl al (hidL kf nl bl)
theorem sealL_len (kf : Nat → UInt8) (h : P2) (nl al cl : List UInt8) : (sealL kf h nl al cl).length = 16 := strm_len ..
theorem hidL_len (kf : Nat → UInt8) (nl bl : List UInt8) : (hidL kf nl bl).length = bl.length := strm_len ..
def hP (kf : Nat → UInt8) : P2 := ofP (aesR kf (fun _ => 0) 10)
theorem hP_is (kf : Nat → UInt8) : ofP (aesR kf (fun i => ((List.range 16).map fun _ => (0 : UInt8)).getD i 0) 10) = hP kf := by
  unfold hP
  rw [show (fun i => ((List.range 16).map fun _ => (0 : UInt8)).getD i 0) = fun _ => 0 from funext (zeros_getD 16)]
theorem take_calls (bx : Nat) (X v : Value) (h r : P2) (l : List UInt8) (w : World) (hx : Blk w bx 89 #[X, V64 h.1, V64 h.2]) (hv : Sl w v l) :
    Ret Tryd.prog 64 #[PT bx 0, PV r, v] w fun v' w' => v' = PV (takeP h r l (blocks l)) ∧ Chg [] w w' := by
 refine Ret.enter Tryd.func64 rfl ?_
 simp only [Tryd.ntmps64, fe, Nat.reduceAdd, Nat.reduceSub]
 have hH := Hp.start [] w
 refine wp_seq_k ?_
 intro K1 hK1
 refine wrt [.x 0, .x 1] ?_
 refine plan_box rfl rfl hH rfl ?_
 clear hH
 intro b2 w3 hH
 (try simp only [nf, nh, Value.cells, arrB_set] at hH ⊢)
 refine plan_alloc rfl rfl hH zc85 ?_
 clear hH
 intro b4 w5 hH
 (try simp only [nf, nh, Value.cells, arrB_set] at hH ⊢)
 refine plan_nil hH ?_
 clear hH
 intro w6 hH
 refine hK1 _ _ ?_
 (try clear hK1 K1)
 refine wp_seq_k ?_
 intro K7 hK7
 refine wp_block ?_
 obtain ⟨kc8, hkc9, hN⟩ := hH.name 1 rfl
 replace hH := hN; clear hN; simp only [List.set_cons_zero, List.set_cons_succ] at hH
 refine wp_loopT [2] [7, 8, 9, 10, 11, 12, 13, 14, 15, 16, 17, 18, 19, 20, 21, 22, 23, 24, 25, 26, 27, 28, 29, 30, 31, 32, 33, 34, 35, 36] (fun (n10 : Nat) (vs : List Value) (w' : World) => ∃ (k : Nat) (bv : Value), vs = [bv] ∧ Hp [] w w' [(some b2, 85, #[V64 (takeP h r l k).1, V64 (takeP h r l k).2]), (some b4, 85, kc8)] ∧ n10 = blocks l - k ∧ k ≤ blocks l ∧ Sl w bv (l.drop (16 * k))) (blocks l - 0) (by kernel_rfl) ?_ ?_
 ·
  simp only [ga]
  refine ⟨0, _, rfl, ?_, rfl, ?_, ?_⟩
  ·
   exact hH
  · first | omega | (omega)
  · first | omega | (exact hv)
 clear hH
 intro n10 vs11 w12 hR13 d0
 obtain ⟨k, bv, rfl, hH, hn14, hf15, hbv⟩ := hR13
 simp only [putAll, putD, List.set_cons_zero, List.set_cons_succ, Nat.zero_add, Nat.reduceAdd]
 subst hkc9
 refine wp_seq_k ?_
 intro K16 hK16
 refine wp_seq_k ?_
 intro K17 hK17
 refine wrt [.p 0, .p 1, .p 2] ?_
 refine pm ?_;simp only [nf]
 refine pp rfl rfl (pr_len_Sl (hbv.chg hH.chg) rfl Tryd.underlying22) ?_;simp only [nf]
 refine pp rfl rfl (pr_bin rfl rfl (by first | exact bin_gtr_n (n := 0)  | exact bin_gtr_i)) ?_;simp only [nf]
 refine plan_nil hH ?_
 clear hH
 intro w18 hH
 refine hK17 _ _ ?_
 (try clear hK17 K17)
 refine wp_cond_split rfl (fun hc19 => ?_) (fun hc19 => ?_)
 ·
  (try simp only [cnd] at hc19)
  refine wp_skip ?_
  refine hK16 _ _ ?_
  (try clear hK16 K16)
  refine wp_block ?_
  refine wp_seq_k ?_
  intro K20 hK20
  refine wrt [.x 0] ?_
  refine plan_alloc rfl rfl hH zc87 ?_
  clear hH
  intro b21 w22 hH
  (try simp only [nf, nh, Value.cells, arrB_set] at hH ⊢)
  refine plan_nil hH ?_
  clear hH
  intro w23 hH
  refine hK20 _ _ ?_
  (try clear hK20 K20)
  refine wp_seq_k ?_
  intro K24 hK24
  refine wrt [.p 0, .p 1, .e 2, .p 3] ?_
  refine pp rfl rfl (pr_slice_arr_all rfl Tryd.underlying87 sz5) ?_;simp only [nf]
  (try simp only [Nat.mul_one, Nat.zero_add, Nat.add_sub_cancel_left])
  refine pm ?_;simp only [nf]
  refine plan_copy 2 rfl rfl hH rfl (fun w' hH => ((hbv.chg hH.chg)).csrc) rfl rfl Tryd.underlying22 sz5 (by first | omega | (simp only [List.length_drop] at *; omega)) ?_
  clear hH
  intro w25 hH
  (try simp only [nf, nh, Value.cells, arrB_set] at hH ⊢)
  refine pa ?_;simp only [nf]
  refine plan_nil hH ?_
  clear hH
  intro w26 hH
  replace hH := hH.say 2 rfl (arr8_congr fun j hj => copy_blk l k j hj)
  simp only [List.set_cons_zero, List.set_cons_succ] at hH
  refine hK24 _ _ ?_
  (try clear hK24 K24)
  refine wp_seq_k ?_
  intro K27 hK27
  refine wrt [.p 0, .p 1, .p 2, .p 3] ?_
  refine pm (pm ?_);simp only [nf]
  refine pp rfl rfl (pr_slice_Sl_l (hbv.chg hH.chg) rfl rfl Tryd.underlying22 sz5 (by first | omega | (simp only [List.length_drop] at *; omega))) ?_;simp only [nf]
  refine pa ?_;simp only [nf]
  refine plan_nil hH ?_
  clear hH
  intro w28 hH
  refine hK27 _ _ ?_
  (try clear hK27 K27)
  refine wp_seq_k ?_
  intro K29 hK29
  refine wrt [.q 0, .q 1, .x 2, .e 3] ?_
  refine pq rfl rfl (qr_loadW rfl (hH.blk 2 rfl) Tryd.underlying87 rfl sz87 (by simp)) ?_;simp only [nf]
  refine pq rfl rfl (qr_call cf44 (fun w' hw => of_calls _ w') rfl) ?_;simp only [nf]
  refine plan_alloc rfl rfl hH zc85 ?_
  clear hH
  intro b30 w31 hH
  (try simp only [nf, nh, Value.cells, arrB_set] at hH ⊢)
  refine plan_storeW 3 rfl rfl hH rfl rfl rfl (by simp [Value.oneCell']) sz85 (by simp) (by simp) ?_
  clear hH
  intro w32 hH
  (try simp only [nf, nh, Value.cells, arrB_set] at hH ⊢)
  refine plan_nil hH ?_
  clear hH
  intro w33 hH
  refine hK29 _ _ ?_
  (try clear hK29 K29)
  refine wrp [.p 0, .p 2, .p 5, .p 7, .p 11, .p 12, .p 13, .q 1, .q 3, .p 4, .q 6, .q 8, .p 9, .p 10, .q 14, .q 15, .e 16] ?_
  refine pp rfl rfl (pr_fieldAddr 0 rfl Tryd.underlying85 rfl rfl sz49) ?_;simp only [nf]
  refine pp rfl rfl (pr_fieldAddr 0 rfl Tryd.underlying85 rfl rfl sz49) ?_;simp only [nf]
  refine pp rfl rfl (pr_fieldAddr 1 rfl Tryd.underlying85 rfl rfl sz49) ?_;simp only [nf]
  refine pp rfl rfl (pr_fieldAddr 1 rfl Tryd.underlying85 rfl rfl sz49) ?_;simp only [nf]
  refine pm ?_;simp only [nf]
  refine pp rfl rfl (pr_nilCheck rfl) ?_;simp only [nf]
  refine pp rfl rfl (pr_fieldAddr 1 rfl Tryd.underlying89 rfl rfl sz85) ?_;simp only [nf]
  refine pq rfl rfl (qr_load1 rfl Tryd.underlying49 rfl ((hH.blk 0 rfl).cell rfl)) ?_;simp only [nf]
  refine pq rfl rfl (qr_load1 rfl Tryd.underlying49 rfl ((hH.blk 3 rfl).cell rfl)) ?_;simp only [nf]
  refine pp rfl rfl (pr_bin rfl rfl (bin_xor_u64 _ _)) ?_;simp only [nf]
  refine pq rfl rfl (qr_load1 rfl Tryd.underlying49 rfl ((hH.blk 0 rfl).cell rfl)) ?_;simp only [nf]
  refine pq rfl rfl (qr_load1 rfl Tryd.underlying49 rfl ((hH.blk 3 rfl).cell rfl)) ?_;simp only [nf]
  refine pp rfl rfl (pr_bin rfl rfl (bin_xor_u64 _ _)) ?_;simp only [nf]
  refine pp rfl rfl (pr_build (by rfl) (bd85_0_1 _ _)) ?_;simp only [nf]
  refine pq rfl rfl (qr_loadE _ rfl (hH.chg.nil_blk hx) Tryd.underlying85 rfl sz85 (by simp) (ext2 _ _ _ _ rfl)) ?_;simp only [nf]
  refine pq rfl rfl (qr_call cf65 (fun w' hw => gtimes_calls (_, _) (_, _) w') rfl) ?_;simp only [nf]
  refine plan_storeW 0 rfl rfl hH rfl rfl rfl (by simp [Value.oneCell']) sz85 (by simp) (by simp) ?_
  clear hH
  intro w34 hH
  (try simp only [nf, nh, Value.cells, arrB_set] at hH ⊢)
  refine plan_nil hH ?_
  clear hH
  intro w35 hH
  (try simp only [Exit.then, Exit.inBlock, ↓reduceIte, Nat.reduceEqDiff])
  refine ⟨blocks l - (k + 1), ?_, _, rfl, by kernel_rfl, ?_⟩
  · first | omega | (unfold blocks at *; simp only [List.length_drop] at *; omega)
  simp only [ga]
  refine ⟨k + 1, _, rfl, ?_, rfl, ?_, ?_⟩
  ·
   exact hH.take 2
  · first | omega | (unfold blocks at *; simp only [List.length_drop] at *; omega)
  · first | omega | (rw [← drop_blk]; exact Sl.cutl hbv (by omega))
 ·
  (try simp only [cnd] at hc19)
  refine wp_exit ?_
  (try simp only [Exit.then, Exit.inBlock, ↓reduceIte, Nat.reduceEqDiff])
  refine hK7 _ _ ?_
  (try clear hK7 K7)
  refine wp_seq_k ?_
  intro K36 hK36
  refine wrt [.q 0, .e 1] ?_
  refine pq rfl rfl (qr_loadW rfl (hH.blk 0 rfl) Tryd.underlying85 rfl sz85 (by simp)) ?_;simp only [nf]
  refine plan_storeW 1 rfl rfl hH rfl rfl rfl (by simp [Value.oneCell']) sz85 (by simp) (by simp) ?_
  clear hH
  intro w37 hH
  (try simp only [nf, nh, Value.cells, arrB_set] at hH ⊢)
  refine plan_nil hH ?_
  clear hH
  intro w38 hH
  refine hK36 _ _ ?_
  (try clear hK36 K36)
  refine wp_ret ?_
  (try simp only [Exit.then, Exit.inBlock, ↓reduceIte, Nat.reduceEqDiff])
  refine BP.retc rfl rfl (hH.blk 1 rfl) Tryd.underlying85 rfl sz85 (by simp) ?_
  obtain rfl : k = blocks l := by unfold blocks at *; simp only [List.length_drop] at *; omega
  exact ⟨rfl, hH.chg⟩
theorem counter_calls (v : Value) (nl : List UInt8) (n : UInt8) (w : World) (hv : Sl w v nl) (hl : nl.length = 12) : Ret Tryd.prog 46 #[v, V8 n] w fun v w' => ∃ o cap cs, v = own o 16 cap ∧ Chg [] w w' ∧ OwnC o 16 cap 1 cs ((nl ++ [0, 0, 0, n]).map V8) ∧ ∀ bo, o = some bo → w.heap.size ≤ bo ∧ Blk w' bo 5 cs := by
 refine Ret.enter Tryd.func46 rfl ?_
 simp only [Tryd.ntmps46, fe, Nat.reduceAdd, Nat.reduceSub]
 have hH := Hp.start [] w
 refine wp_seq_k ?_
 intro K1 hK1
 refine wrt [.p 0] ?_
 refine pa ?_;simp only [nf]
 refine plan_nil hH ?_
 clear hH
 intro w2 hH
 refine hK1 _ _ ?_
 (try clear hK1 K1)
 refine wp_seq_k ?_
 intro K3 hK3
 refine wrt [.x 0, .p 1, .e 2, .p 3, .x 4, .e 5, .p 6] ?_
 refine plan_buildSlice rfl rfl hH Tryd.underlying22 (by rfl) (bs0 ) ?_
 clear hH
 intro b4 w5 hH
 (try simp only [nf, nh, Value.cells, arrB_set] at hH ⊢)
 refine pm ?_;simp only [nf]
 refine plan_append 0 rfl rfl hH rfl (OwnC.of_bytes rfl) (fun w' hH => ((hv.chg hH.chg)).src) rfl rfl Tryd.underlying22 Tryd.underlying22 (.inl ⟨_, rfl⟩) sz5 bz5 ze5 rfl (by first | omega | (simp <;> omega)) (by first | omega | (simp <;> omega)) ?_
 clear hH
 intro o6 cap7 cs8 w9 hO10 hH
 (try simp only [nf] at hH ⊢)
 (try simp only [nf, nh, Value.cells, arrB_set] at hH ⊢)
 try rw [← List.map_append] at hO10
 (try simp only [Nat.zero_add, List.nil_append, List.length_nil] at hO10 ⊢)
 refine pm ?_;simp only [nf]
 refine plan_buildSlice rfl rfl hH Tryd.underlying22 (by rfl) (bs4 0 0 0 _) ?_
 clear hH
 intro b11 w12 hH
 (try simp only [nf, nh, Value.cells, arrB_set] at hH ⊢)
 refine plan_append 0 rfl rfl hH rfl hO10 (fun w' hH => ((OwnC.sl hH 1 rfl (OwnC.of_bytes rfl))).src) rfl rfl Tryd.underlying22 Tryd.underlying22 (.inl ⟨_, rfl⟩) sz5 bz5 ze5 rfl (by first | omega | (simp <;> omega)) (by first | omega | (simp <;> omega)) ?_
 clear hH
 intro o13 cap14 cs15 w16 hO17 hH
 (try simp only [nf] at hH ⊢)
 (try simp only [nf, nh, Value.cells, arrB_set] at hH ⊢)
 try rw [← List.map_append] at hO17
 (try simp only [Nat.zero_add, List.nil_append, List.length_nil] at hO17 ⊢)
 refine pa ?_;simp only [nf]
 refine plan_nil hH ?_
 clear hH
 intro w18 hH
 refine hK3 _ _ ?_
 (try clear hK3 K3)
 refine wp_ret ?_
 (try simp only [Exit.then, Exit.inBlock, ↓reduceIte, Nat.reduceEqDiff])
 refine BP.ret1 rfl rfl ?_
 simp only [List.length_cons, List.length_nil, hl, Nat.reduceAdd] at *
 exact ⟨_, _, _, rfl, hH.chg, (by assumption), hH.owned 0 rfl⟩
theorem same_not (a b : Value) (al bl : List UInt8) (w : World) (hal : al.length < 9223372036854775808) (ha : Sl w a al) (hb : Sl w b bl) (hl : al.length ≠ bl.length) : Ret Tryd.prog 50 #[a, b] w fun v w' => v = BV (al == bl) ∧ Chg [] w w' := by
 refine Ret.enter Tryd.func50 rfl ?_
 simp only [Tryd.ntmps50, fe, Nat.reduceAdd, Nat.reduceSub]
 have hH := Hp.start [] w
 refine wp_seq_k ?_
 intro K1 hK1
 refine wrt [.p 0] ?_
 refine pa ?_;simp only [nf]
 refine plan_nil hH ?_
 clear hH
 intro w2 hH
 refine hK1 _ _ ?_
 (try clear hK1 K1)
 refine wp_seq_k ?_
 intro K3 hK3
 refine wp_seq_k ?_
 intro K4 hK4
 refine wrt [.p 0, .p 1, .p 2, .p 3, .p 4] ?_
 refine pm ?_;simp only [nf]
 refine pp rfl rfl (pr_len_Sl (ha.chg hH.chg) rfl Tryd.underlying22) ?_;simp only [nf]
 refine pm ?_;simp only [nf]
 refine pp rfl rfl (pr_len_Sl (hb.chg hH.chg) rfl Tryd.underlying22) ?_;simp only [nf]
 refine pp rfl rfl (pr_bin rfl rfl (by first | exact bin_neq_n  | exact bin_neq_i)) ?_;simp only [nf]
 refine plan_nil hH ?_
 clear hH
 intro w5 hH
 refine hK4 _ _ ?_
 (try clear hK4 K4)
 refine wp_cond_true (by show BV _ = _; rw [bne_iff_ne.mpr hl]) ?_
 refine wp_seq_k ?_
 intro K6 hK6
 refine wrt [.p 0] ?_
 refine pa ?_;simp only [nf]
 refine plan_nil hH ?_
 clear hH
 intro w7 hH
 refine hK6 _ _ ?_
 (try clear hK6 K6)
 refine wp_ret ?_
 (try simp only [Exit.then, Exit.inBlock, ↓reduceIte, Nat.reduceEqDiff])
 refine BP.ret1 rfl rfl ?_
 exact ⟨congrArg BV (by symm; rw [beq_eq_false_iff_ne]; rintro rfl; exact hl rfl), hH.chg⟩
theorem same_len (a b : Value) (al bl : List UInt8) (w : World) (hal : al.length < 9223372036854775808) (ha : Sl w a al) (hb : Sl w b bl) (hl : al.length = bl.length) : Ret Tryd.prog 50 #[a, b] w fun v w' => v = BV (al == bl) ∧ Chg [] w w' := by
 refine Ret.enter Tryd.func50 rfl ?_
 simp only [Tryd.ntmps50, fe, Nat.reduceAdd, Nat.reduceSub]
 have hH := Hp.start [] w
 refine wp_seq_k ?_
 intro K1 hK1
 refine wrt [.p 0] ?_
 refine pa ?_;simp only [nf]
 refine plan_nil hH ?_
 clear hH
 intro w2 hH
 refine hK1 _ _ ?_
 (try clear hK1 K1)
 refine wp_seq_k ?_
 intro K3 hK3
 refine wp_seq_k ?_
 intro K4 hK4
 refine wrt [.p 0, .p 1, .p 2, .p 3, .p 4] ?_
 refine pm ?_;simp only [nf]
 refine pp rfl rfl (pr_len_Sl (ha.chg hH.chg) rfl Tryd.underlying22) ?_;simp only [nf]
 refine pm ?_;simp only [nf]
 refine pp rfl rfl (pr_len_Sl (hb.chg hH.chg) rfl Tryd.underlying22) ?_;simp only [nf]
 refine pp rfl rfl (pr_bin rfl rfl (by first | exact bin_neq_n  | exact bin_neq_i)) ?_;simp only [nf]
 refine plan_nil hH ?_
 clear hH
 intro w5 hH
 refine hK4 _ _ ?_
 (try clear hK4 K4)
 refine wp_cond_false (by show BV _ = _; rw [hl, bne_self_eq_false]) ?_
 refine wp_skip ?_
 refine hK3 _ _ ?_
 (try clear hK3 K3)
 refine wp_seq_k ?_
 intro K6 hK6
 refine wrt [.p 0] ?_
 refine pa ?_;simp only [nf]
 refine plan_nil hH ?_
 clear hH
 intro w7 hH
 refine hK6 _ _ ?_
 (try clear hK6 K6)
 refine wp_seq_k ?_
 intro K8 hK8
 refine wp_seq_k ?_
 intro K9 hK9
 refine wrt [.p 0, .p 1, .p 2] ?_
 refine pm ?_;simp only [nf]
 refine pp rfl rfl (pr_len_Sl (ha.chg hH.chg) rfl Tryd.underlying22) ?_;simp only [nf]
 refine pk 0 ?_;simp only [nf]
 refine plan_nil hH ?_
 clear hH
 intro w10 hH
 refine hK9 _ _ ?_
 (try clear hK9 K9)
 refine wp_block ?_
 refine wp_loopT [5, 15] [6, 7, 16, 17, 18, 19, 20, 21, 22, 23, 24, 25, 26, 27, 28] (fun (n11 : Nat) (vs : List Value) (w' : World) => ∃ (i : Nat), vs = [V8 (orD al bl i), I64 (i : Nat)] ∧ Hp [] w w' [] ∧ n11 = al.length - i ∧ i ≤ al.length) (al.length - 0) (by kernel_rfl) ?_ ?_
 ·
  simp only [ga]
  refine ⟨0, rfl, ?_, rfl, ?_⟩
  ·
   exact hH
  · first | omega | (omega)
 clear hH
 intro n11 vs12 w13 hR14 d0
 obtain ⟨i, rfl, hH, hn15, hf16⟩ := hR14
 simp only [putAll, putD, List.set_cons_zero, List.set_cons_succ, Nat.zero_add, Nat.reduceAdd]
 refine wp_seq_k ?_
 intro K17 hK17
 refine wrt [.p 0] ?_
 refine pp rfl rfl (pr_bin rfl rfl (by first | exact bin_lss_n  | exact bin_lss_i)) ?_;simp only [nf]
 refine plan_nil hH ?_
 clear hH
 intro w18 hH
 refine hK17 _ _ ?_
 (try clear hK17 K17)
 refine wp_seq_k ?_
 intro K19 hK19
 refine wp_cond_split rfl (fun hc20 => ?_) (fun hc20 => ?_)
 ·
  (try simp only [cnd] at hc20)
  refine wp_skip ?_
  refine hK19 _ _ ?_
  (try clear hK19 K19)
  refine wp_seq_k ?_
  intro K21 hK21
  refine wp_block ?_
  refine wp_seq_k ?_
  intro K22 hK22
  refine wrt [.p 0, .p 1, .q 2, .p 3, .p 4] ?_
  refine pm ?_;simp only [nf]
  refine pp rfl rfl (pr_idx_Sl (ha.chg hH.chg) rfl rfl Tryd.underlying22 sz5 (by omega)) ?_;simp only [nf]
  refine pq rfl rfl (qr_load1 rfl Tryd.underlying5 rfl (Sl.cell (ha.chg hH.chg) (by omega))) ?_;simp only [nf]
  refine pa (pa ?_);simp only [nf]
  refine plan_nil hH ?_
  clear hH
  intro w23 hH
  refine hK22 _ _ ?_
  (try clear hK22 K22)
  refine wrt [.p 0, .p 1, .p 2, .p 3, .p 4, .q 5, .p 6, .p 7, .p 8] ?_
  refine pm (pm (pm (pm ?_)));simp only [nf]
  refine pp rfl rfl (pr_idx_Sl (hb.chg hH.chg) rfl rfl Tryd.underlying22 sz5 (by omega)) ?_;simp only [nf]
  refine pq rfl rfl (qr_load1 rfl Tryd.underlying5 rfl (Sl.cell (hb.chg hH.chg) (by omega))) ?_;simp only [nf]
  refine pp rfl rfl (pr_bin rfl rfl (bin_xor_u8 _ _)) ?_;simp only [nf]
  refine pp rfl rfl (pr_bin rfl rfl (bin_or_u8 _ _)) ?_;simp only [nf]
  refine pa ?_;simp only [nf]
  refine plan_nil hH ?_
  clear hH
  intro w24 hH
  refine hK21 _ _ ?_
  (try clear hK21 K21)
  refine wrt [.p 0, .p 1] ?_
  refine pp rfl rfl (pr_bin rfl rfl (by first | exact bin_add_n (n := 1) (by omega) | exact bin_add_i (by omega) (by omega))) ?_;simp only [nf]
  refine pm ?_;simp only [nf]
  refine plan_nil hH ?_
  clear hH
  intro w25 hH
  (try simp only [Exit.then, Exit.inBlock, ↓reduceIte, Nat.reduceEqDiff])
  refine ⟨al.length - (i + 1), ?_, _, rfl, by kernel_rfl, ?_⟩
  · first | omega | (omega)
  simp only [ga]
  refine ⟨i + 1, rfl, ?_, rfl, ?_⟩
  ·
   exact hH
  · first | omega | (omega)
 ·
  (try simp only [cnd] at hc20)
  refine wp_exit ?_
  (try simp only [Exit.then, Exit.inBlock, ↓reduceIte, Nat.reduceEqDiff])
  refine hK8 _ _ ?_
  (try clear hK8 K8)
  refine wp_seq_k ?_
  intro K26 hK26
  refine wrt [.p 0, .p 1, .p 2] ?_
  refine pm ?_;simp only [nf]
  refine pp rfl rfl (pr_bin rfl rfl (bin_eql_u8 _ 0)) ?_;simp only [nf]
  refine pa ?_;simp only [nf]
  refine plan_nil hH ?_
  clear hH
  intro w27 hH
  refine hK26 _ _ ?_
  (try clear hK26 K26)
  refine wp_ret ?_
  (try simp only [Exit.then, Exit.inBlock, ↓reduceIte, Nat.reduceEqDiff])
  refine BP.ret1 rfl rfl ?_
  obtain rfl : i = al.length := by omega
  exact ⟨congrArg BV (same_is hl), hH.chg⟩
theorem same_calls (a b : Value) (al bl : List UInt8) (w : World) (hal : al.length < 9223372036854775808) (ha : Sl w a al) (hb : Sl w b bl) : Ret Tryd.prog 50 #[a, b] w fun v w' => v = BV (al == bl) ∧ Chg [] w w' := by
  by_cases hl : al.length = bl.length
  · exact same_len a b al bl w hal ha hb hl
  · exact same_not a b al bl w hal ha hb hl
theorem gnew_calls (key : Value) (l : List UInt8) (w : World) (hk : Sl w key l) (hl : l.length = 16) : Ret Tryd.prog 22 #[key] w fun v w' =>
    ∃ bc bx, v = .tuple #[PT bx 0, I64 (0 : Nat)] ∧ Chg [] w w' ∧ w.heap.size ≤ bc ∧ Blk w' bc 109 (arr8 176 (kexp fun i => l.getD i 0)) ∧ w.heap.size ≤ bx ∧ Blk w' bx 89 #[PT bc 0, V64 (hP (kexp fun i => l.getD i 0)).1, V64 (hP (kexp fun i => l.getD i 0)).2] ∧ bc ≠ bx := by
 refine Ret.enter Tryd.func22 rfl ?_
 simp only [Tryd.ntmps22, fe, Nat.reduceAdd, Nat.reduceSub]
 have hH := Hp.start [] w
 refine wp_seq_k ?_
 intro K1 hK1
 refine wrt [.p 0, .p 1] ?_
 refine pa (pka 0 ?_);simp only [nf]
 refine plan_nil hH ?_
 clear hH
 intro w2 hH
 refine hK1 _ _ ?_
 (try clear hK1 K1)
 refine wp_seq_k ?_
 intro K3 hK3
 refine wrt [.p 0, .x 1, .p 2, .p 3, .p 4, .p 5, .p 6] ?_
 refine pm ?_;simp only [nf]
 refine plan_callx rfl rfl hH cf42 (fun w' hH => new_calls _ _ w' (hk.chg hH.chg) hl) rfl (fun _ _ _ h => h.choose_spec.2.1) ?_
 clear hH
 intro w4 v5 w6 hH hp7
 obtain ⟨b8, rfl, hg, hfr, hbk⟩ := hp7
 replace hH := hH.callnew hg hbk hfr
 clear hg hfr hbk
 (try simp only [nf, nh, Value.cells, arrB_set] at hH ⊢)
 (try simp only [nf])
 refine pm ?_;simp only [nf]
 refine pp rfl rfl (pr_extract rfl rfl) ?_;simp only [nf]
 refine pp rfl rfl (pr_extract rfl rfl) ?_;simp only [nf]
 refine pa (pa ?_);simp only [nf]
 refine plan_nil hH ?_
 clear hH
 intro w9 hH
 refine hK3 _ _ ?_
 (try clear hK3 K3)
 refine wp_seq_k ?_
 intro K10 hK10
 refine wp_seq_k ?_
 intro K11 hK11
 refine wrt [.p 0, .p 1] ?_
 refine pm ?_;simp only [nf]
 refine pp rfl rfl (pr_bin rfl rfl (by first | exact bin_neq_n (n := 0)  | exact bin_neq_i)) ?_;simp only [nf]
 refine plan_nil hH ?_
 clear hH
 intro w12 hH
 refine hK11 _ _ ?_
 (try clear hK11 K11)
 refine wp_cond_false rfl ?_
 refine wp_skip ?_
 refine hK10 _ _ ?_
 (try clear hK10 K10)
 refine wp_seq_k ?_
 intro K13 hK13
 refine wrt [.p 0, .x 1, .x 2, .p 3, .p 4, .p 5, .p 6, .p 7] ?_
 refine pm ?_;simp only [nf]
 refine plan_make (n := 16) (c := 16) rfl rfl hH rfl rfl Tryd.underlying22 sz5 bz5 ze5 rfl (by omega) (by omega) (by omega) ?_
 clear hH
 intro b14 w15 hH
 (try simp only [nf] at hH ⊢)
 rw [made_arr8] at hH
 (try simp only [nf, nh, Value.cells, arrB_set] at hH ⊢)
 refine plan_callx rfl rfl hH cf43 (fun w' hH => block_calls _ _ _ _ w' (hH.blk 0 rfl) (OwnC.sl hH 1 rfl OwnC.made) (by simp)) rfl (fun _ _ _ h => h.choose_spec.2.1) ?_
 clear hH
 intro w16 v17 w18 hH hp19
 obtain ⟨b20, rfl, hg, hfr, hbk⟩ := hp19
 replace hH := hH.callnew hg hbk hfr
 clear hg hfr hbk
 (try simp only [nf, nh, Value.cells, arrB_set] at hH ⊢)
 (try simp only [nf])
 refine pm ?_;simp only [nf]
 refine pp rfl rfl (pr_extract rfl rfl) ?_;simp only [nf]
 refine pp rfl rfl (pr_extract rfl rfl) ?_;simp only [nf]
 refine pa (pa ?_);simp only [nf]
 refine plan_nil hH ?_
 clear hH
 intro w21 hH
 refine hK13 _ _ ?_
 (try clear hK13 K13)
 refine wp_seq_k ?_
 intro K22 hK22
 refine wp_seq_k ?_
 intro K23 hK23
 refine wrt [.p 0, .p 1] ?_
 refine pm ?_;simp only [nf]
 refine pp rfl rfl (pr_bin rfl rfl (by first | exact bin_neq_n (n := 0)  | exact bin_neq_i)) ?_;simp only [nf]
 refine plan_nil hH ?_
 clear hH
 intro w24 hH
 refine hK23 _ _ ?_
 (try clear hK23 K23)
 refine wp_cond_false rfl ?_
 refine wp_skip ?_
 refine hK22 _ _ ?_
 (try clear hK22 K22)
 refine wp_seq_k ?_
 intro K25 hK25
 refine wrt [.p 0, .p 1, .p 2, .q 3, .q 4, .p 5, .x 6, .p 7, .p 8] ?_
 refine pm (pm ?_);simp only [nf]
 refine pp rfl rfl (pr_s2ap rfl Tryd.underlying87 (by omega)) ?_;simp only [nf]
 refine pq rfl rfl (qr_loadW rfl (hH.blk 2 rfl) Tryd.underlying87 rfl sz87 (by simp)) ?_;simp only [nf]
 refine pq rfl rfl (qr_call cf44 (fun w' hw => of_calls _ w') rfl) ?_;simp only [nf]
 refine pp rfl rfl (pr_build (by rfl) (bd89_0_1 _ _ _)) ?_;simp only [nf]
 refine plan_box rfl rfl hH rfl ?_
 clear hH
 intro b26 w27 hH
 (try simp only [nf, nh, Value.cells, arrB_set] at hH ⊢)
 refine pa (pka 0 ?_);simp only [nf]
 refine plan_nil hH ?_
 clear hH
 intro w28 hH
 refine hK25 _ _ ?_
 (try clear hK25 K25)
 refine wp_ret ?_
 (try simp only [Exit.then, Exit.inBlock, ↓reduceIte, Nat.reduceEqDiff])
 refine BP.ret2 rfl rfl rfl ?_
 rw [hP_is] at hH
 exact ⟨_, _, rfl, hH.chg, (hH.mine 0 rfl).resolve_right (by simp), hH.blk 0 rfl, (hH.mine 3 rfl).resolve_right (by simp), hH.blk 3 rfl, hH.other (i := 3) rfl (j := 0) rfl (by decide) rfl⟩
theorem seal_calls (bx bc : Nat) (kf : Nat → UInt8) (h : P2) (nv av cv : Value) (nl al cl : List UInt8) (w : World) (hx : Blk w bx 89 #[PT bc 0, V64 h.1, V64 h.2]) (hc : Blk w bc 109 (arr8 176 kf)) (hn : Sl w nv nl) (hl : nl.length = 12) (ha : Sl w av al) (hv : Sl w cv cl) :
    Ret Tryd.prog 47 #[PT bx 0, nv, av, cv] w fun v w' => ∃ o cap cs, v = own o 16 cap ∧ Chg [] w w' ∧ OwnC o 16 cap 1 cs ((sealL kf h nl al cl).map V8) ∧ ∀ bo, o = some bo → w.heap.size ≤ bo ∧ Blk w' bo 5 cs := by
 refine Ret.enter Tryd.func47 rfl ?_
 simp only [Tryd.ntmps47, fe, Nat.reduceAdd, Nat.reduceSub]
 have hH := Hp.start [] w
 refine wp_seq_k ?_
 intro K1 hK1
 refine wrt [.p 0] ?_
 refine pa ?_;simp only [nf]
 refine plan_nil hH ?_
 clear hH
 intro w2 hH
 refine hK1 _ _ ?_
 (try clear hK1 K1)
 refine wp_seq_k ?_
 intro K3 hK3
 refine wrt [.p 0, .p 1, .p 2, .p 3, .q 4, .p 5, .q 6, .x 7, .e 8] ?_
 refine pm (pm ?_);simp only [nf]
 refine pp rfl rfl (pr_build (by rfl) (bd85_ )) ?_;simp only [nf]
 refine pm ?_;simp only [nf]
 refine pq rfl rfl (qr_call cf64 (fun w' hw => take_calls _ _ _ _ (0, 0) _ w' (hw.nil_blk (hH.chg.nil_blk hx)) ((ha.chg hH.chg).chg hw)) rfl) ?_;simp only [nf]
 refine pm ?_;simp only [nf]
 refine pq rfl rfl (qr_call cf64 (fun w' hw => take_calls _ _ _ _ _ _ w' (hw.nil_blk (hH.chg.nil_blk hx)) ((hv.chg hH.chg).chg hw)) rfl) ?_;simp only [nf]
 refine plan_alloc rfl rfl hH zc85 ?_
 clear hH
 intro b4 w5 hH
 (try simp only [nf, nh, Value.cells, arrB_set] at hH ⊢)
 refine plan_storeW 0 rfl rfl hH rfl rfl rfl (by simp [Value.oneCell']) sz85 (by simp) (by simp) ?_
 clear hH
 intro w6 hH
 (try simp only [nf, nh, Value.cells, arrB_set] at hH ⊢)
 refine plan_nil hH ?_
 clear hH
 intro w7 hH
 refine hK3 _ _ ?_
 (try clear hK3 K3)
 refine wp_seq_k ?_
 intro K8 hK8
 refine wrp [.p 0, .p 2, .p 3, .p 4, .p 5, .p 7, .p 9, .p 10, .p 11, .p 12, .p 15, .p 16, .p 17, .q 1, .p 6, .q 8, .p 13, .p 14, .q 18, .q 19, .e 20] ?_
 refine pp rfl rfl (pr_fieldAddr 0 rfl Tryd.underlying85 rfl rfl sz49) ?_;simp only [nf]
 refine pm ?_;simp only [nf]
 refine pp rfl rfl (pr_len_Sl (ha.chg hH.chg) rfl Tryd.underlying22) ?_;simp only [nf]
 refine pp rfl rfl (pr_conv rfl (by first | exact cnv_n_u64 Tryd.underlying3 Tryd.underlying49 | exact cnv_i_u64 Tryd.underlying3 Tryd.underlying49)) ?_;simp only [nf]
 refine pp rfl rfl (pr_bin rfl rfl (bin_shlc_u64 3 3 (by decide) rfl _)) ?_;simp only [nf]
 refine pp rfl rfl (pr_fieldAddr 1 rfl Tryd.underlying85 rfl rfl sz49) ?_;simp only [nf]
 refine pm ?_;simp only [nf]
 refine pp rfl rfl (pr_len_Sl (hv.chg hH.chg) rfl Tryd.underlying22) ?_;simp only [nf]
 refine pp rfl rfl (pr_conv rfl (by first | exact cnv_n_u64 Tryd.underlying3 Tryd.underlying49 | exact cnv_i_u64 Tryd.underlying3 Tryd.underlying49)) ?_;simp only [nf]
 refine pp rfl rfl (pr_bin rfl rfl (bin_shlc_u64 3 3 (by decide) rfl _)) ?_;simp only [nf]
 refine pm ?_;simp only [nf]
 refine pp rfl rfl (pr_nilCheck rfl) ?_;simp only [nf]
 refine pp rfl rfl (pr_fieldAddr 1 rfl Tryd.underlying89 rfl rfl sz85) ?_;simp only [nf]
 refine pq rfl rfl (qr_load1 rfl Tryd.underlying49 rfl ((hH.blk 0 rfl).cell rfl)) ?_;simp only [nf]
 refine pp rfl rfl (pr_bin rfl rfl (bin_xor_u64 _ _)) ?_;simp only [nf]
 refine pq rfl rfl (qr_load1 rfl Tryd.underlying49 rfl ((hH.blk 0 rfl).cell rfl)) ?_;simp only [nf]
 refine pp rfl rfl (pr_bin rfl rfl (bin_xor_u64 _ _)) ?_;simp only [nf]
 refine pp rfl rfl (pr_build (by rfl) (bd85_0_1 _ _)) ?_;simp only [nf]
 refine pq rfl rfl (qr_loadE _ rfl (hH.chg.nil_blk hx) Tryd.underlying85 rfl sz85 (by simp) (ext2 _ _ _ _ rfl)) ?_;simp only [nf]
 refine pq rfl rfl (qr_call cf65 (fun w' hw => gtimes_calls (_, _) (_, _) w') rfl) ?_;simp only [nf]
 refine plan_storeW 0 rfl rfl hH rfl rfl rfl (by simp [Value.oneCell']) sz85 (by simp) (by simp) ?_
 clear hH
 intro w9 hH
 (try simp only [nf, nh, Value.cells, arrB_set] at hH ⊢)
 refine plan_nil hH ?_
 clear hH
 intro w10 hH
 refine hK8 _ _ ?_
 (try clear hK8 K8)
 refine wp_seq_k ?_
 intro K11 hK11
 refine wrt [.q 0, .q 1, .x 2, .e 3] ?_
 refine pq rfl rfl (qr_loadW rfl (hH.blk 0 rfl) Tryd.underlying85 rfl sz85 (by simp)) ?_;simp only [nf]
 refine pq rfl rfl (qr_call cf66 (fun w' hw => bytes_calls _ w') rfl) ?_;simp only [nf]
 refine plan_alloc rfl rfl hH zc87 ?_
 clear hH
 intro b12 w13 hH
 (try simp only [nf, nh, Value.cells, arrB_set] at hH ⊢)
 refine plan_storeW 1 rfl rfl hH rfl rfl rfl one_arr8 sz87 (by simp) (by simp) ?_
 clear hH
 intro w14 hH
 (try simp only [nf, nh, Value.cells, arrB_set] at hH ⊢)
 refine plan_nil hH ?_
 clear hH
 intro w15 hH
 refine hK11 _ _ ?_
 (try clear hK11 K11)
 refine wp_seq_k ?_
 intro K16 hK16
 refine wrp [.p 0, .p 1, .p 2, .p 4, .p 6, .q 3, .x 5, .x 7, .p 8, .p 9, .p 10, .p 11, .p 12] ?_
 refine pm ?_;simp only [nf]
 refine pp rfl rfl (pr_nilCheck rfl) ?_;simp only [nf]
 refine pp rfl rfl (pr_fieldAddr 0 rfl Tryd.underlying89 rfl rfl sz80) ?_;simp only [nf]
 refine pm ?_;simp only [nf]
 refine pp rfl rfl (pr_slice_arr_all rfl Tryd.underlying87 sz5) ?_;simp only [nf]
 (try simp only [Nat.mul_one, Nat.zero_add, Nat.add_sub_cancel_left])
 refine pq rfl rfl (qr_load1 rfl Tryd.underlying80 rfl ((hH.chg.nil_blk hx).cell rfl)) ?_;simp only [nf]
 refine plan_callx rfl rfl hH cf46 (fun w' hH => counter_calls _ _ 1 w' (hn.chg hH.chg) hl) rfl (fun _ _ _ h => by obtain ⟨_, _, _, _, hg, _⟩ := h; exact hg) ?_
 clear hH
 intro w17 v18 w19 hH hp20
 obtain ⟨o21, cap22, cs23, rfl, hg, hO24, hfr⟩ := hp20
 replace hH := hH.callown hg hfr
 clear hg hfr
 (try simp only [nf, nh, Value.cells, arrB_set] at hH ⊢)
 (try simp only [nf])
 refine plan_callx rfl rfl hH cf45 (fun w' hH => stream_calls _ _ (gctr nl 1) _ _ 0 _ _ w' (hH.chg.nil_blk hc) (OwnC.sl hH 2 rfl hO24) (by simp [hl]) (fun i hi => rfl) (Sl.of_arr8 (hH.blk 1 rfl) (by omega) (by omega)) (by omega) (by first | omega | (simp <;> omega))) rfl (fun _ _ _ h => by obtain ⟨_, _, _, _, hg, _⟩ := h; exact hg) ?_
 clear hH
 intro w25 v26 w27 hH hp28
 obtain ⟨o29, cap30, cs31, rfl, hg, hO32, hfr⟩ := hp28
 replace hH := hH.callown hg hfr
 clear hg hfr
 (try simp only [nf, nh, Value.cells, arrB_set] at hH ⊢)
 (try simp only [nf])
 refine pm ?_;simp only [nf]
 refine pp rfl rfl (pr_extract rfl rfl) ?_;simp only [nf]
 refine pp rfl rfl (pr_extract rfl rfl) ?_;simp only [nf]
 refine pa (pa ?_);simp only [nf]
 refine plan_nil hH ?_
 clear hH
 intro w33 hH
 refine hK16 _ _ ?_
 (try clear hK16 K16)
 refine wp_seq_k ?_
 intro K34 hK34
 refine wrt [.p 0, .p 1] ?_
 refine pm (pa ?_);simp only [nf]
 refine plan_nil hH ?_
 clear hH
 intro w35 hH
 refine hK34 _ _ ?_
 (try clear hK34 K34)
 refine wp_ret ?_
 (try simp only [Exit.then, Exit.inBlock, ↓reduceIte, Nat.reduceEqDiff])
 refine BP.ret1 rfl rfl ?_
 simp only [List.length_map, List.length_range] at *
 exact ⟨_, _, _, rfl, hH.chg, (by assumption), hH.owned 3 rfl⟩
theorem Seal_calls (bx bc : Nat) (kf : Nat → UInt8) (h : P2) (nv av bv : Value) (nl al bl : List UInt8) (w : World) (hx : Blk w bx 89 #[PT bc 0, V64 h.1, V64 h.2]) (hc : Blk w bc 109 (arr8 176 kf)) (hn : Sl w nv nl) (hl : nl.length = 12) (ha : Sl w av al) (hb : Sl w bv bl) (hbl : bl.length ≤ 100000000000000) :
    Ret Tryd.prog 23 #[PT bx 0, nv, av, bv] w fun v w' => ∃ o cap cs, v = .tuple #[own o (bl.length + 16) cap, I64 (0 : Nat)] ∧ Chg [] w w' ∧ OwnC o (bl.length + 16) cap 1 cs ((sealedL kf h nl al bl).map V8) ∧ ∀ bo, o = some bo → w.heap.size ≤ bo ∧ Blk w' bo 5 cs := by
 refine Ret.enter Tryd.func23 rfl ?_
 simp only [Tryd.ntmps23, fe, Nat.reduceAdd, Nat.reduceSub]
 have hH := Hp.start [] w
 refine wp_seq_k ?_
 intro K1 hK1
 refine wrt [.p 0, .p 1] ?_
 refine pa (pka 0 ?_);simp only [nf]
 refine plan_nil hH ?_
 clear hH
 intro w2 hH
 refine hK1 _ _ ?_
 (try clear hK1 K1)
 refine wp_seq_k ?_
 intro K3 hK3
 refine wp_seq_k ?_
 intro K4 hK4
 refine wrt [.p 0, .p 1, .p 2, .p 3, .p 4, .p 5, .p 6] ?_
 refine pm ?_;simp only [nf]
 refine pp rfl rfl (pr_bin rfl rfl (bin_eql_pn Tryd.underlying59)) ?_;simp only [nf]
 refine plan_p (v := BV false) rfl rfl (pr_move_v rfl) ?_
 (try simp only [nf])
 refine pp rfl rfl pr_move ?_;simp only [nf]
 refine pp rfl rfl (pr_len_Sl (hn.chg hH.chg) rfl Tryd.underlying22) ?_;simp only [nf]
 refine pp rfl rfl (pr_bin rfl rfl (by first | exact bin_neq_n (n := 12)  | exact bin_neq_i)) ?_;simp only [nf]
 refine pp rfl rfl (pr_pick_f rfl) ?_;simp only [nf]
 refine plan_nil hH ?_
 clear hH
 intro w5 hH
 refine hK4 _ _ ?_
 (try clear hK4 K4)
 refine wp_cond_false (by show BV _ = _; rw [hl]; rfl) ?_
 refine wp_skip ?_
 refine hK3 _ _ ?_
 (try clear hK3 K3)
 refine wp_seq_k ?_
 intro K6 hK6
 refine wrp [.p 0, .p 1, .p 2, .p 4, .p 6, .q 3, .x 5, .x 7, .p 8, .p 9, .p 10, .p 11, .p 12] ?_
 refine pm ?_;simp only [nf]
 refine pp rfl rfl (pr_nilCheck rfl) ?_;simp only [nf]
 refine pp rfl rfl (pr_fieldAddr 0 rfl Tryd.underlying89 rfl rfl sz80) ?_;simp only [nf]
 refine pm (pm ?_);simp only [nf]
 refine pq rfl rfl (qr_load1 rfl Tryd.underlying80 rfl ((hH.chg.nil_blk hx).cell rfl)) ?_;simp only [nf]
 refine plan_callx rfl rfl hH cf46 (fun w' hH => counter_calls _ _ 2 w' (hn.chg hH.chg) hl) rfl (fun _ _ _ h => by obtain ⟨_, _, _, _, hg, _⟩ := h; exact hg) ?_
 clear hH
 intro w7 v8 w9 hH hp10
 obtain ⟨o11, cap12, cs13, rfl, hg, hO14, hfr⟩ := hp10
 replace hH := hH.callown hg hfr
 clear hg hfr
 (try simp only [nf, nh, Value.cells, arrB_set] at hH ⊢)
 (try simp only [nf])
 refine plan_callx rfl rfl hH cf45 (fun w' hH => stream_calls _ _ (gctr nl 2) _ _ 0 _ _ w' (hH.chg.nil_blk hc) (OwnC.sl hH 0 rfl hO14) (by simp [hl]) (fun i hi => rfl) (hb.chg hH.chg) (by omega) (by first | omega | (simp <;> omega))) rfl (fun _ _ _ h => by obtain ⟨_, _, _, _, hg, _⟩ := h; exact hg) ?_
 clear hH
 intro w15 v16 w17 hH hp18
 obtain ⟨o19, cap20, cs21, rfl, hg, hO22, hfr⟩ := hp18
 replace hH := hH.callown hg hfr
 clear hg hfr
 (try simp only [nf, nh, Value.cells, arrB_set] at hH ⊢)
 (try simp only [nf])
 refine pm ?_;simp only [nf]
 refine pp rfl rfl (pr_extract rfl rfl) ?_;simp only [nf]
 refine pp rfl rfl (pr_extract rfl rfl) ?_;simp only [nf]
 refine pa (pa ?_);simp only [nf]
 refine plan_nil hH ?_
 clear hH
 intro w23 hH
 refine hK6 _ _ ?_
 (try clear hK6 K6)
 refine wp_seq_k ?_
 intro K24 hK24
 refine wp_seq_k ?_
 intro K25 hK25
 refine wrt [.p 0, .p 1] ?_
 refine pm ?_;simp only [nf]
 refine pp rfl rfl (pr_bin rfl rfl (by first | exact bin_neq_n (n := 0)  | exact bin_neq_i)) ?_;simp only [nf]
 refine plan_nil hH ?_
 clear hH
 intro w26 hH
 refine hK25 _ _ ?_
 (try clear hK25 K25)
 refine wp_cond_false rfl ?_
 refine wp_skip ?_
 refine hK24 _ _ ?_
 (try clear hK24 K24)
 refine wp_seq_k ?_
 intro K27 hK27
 refine wrt [.p 0, .p 1, .p 2, .p 3, .p 4, .x 5, .e 6, .p 7, .p 8] ?_
 refine pm (pm (pm (pm (pm ?_))));simp only [nf]
 refine plan_callx rfl rfl hH cf47 (fun w' hH => seal_calls _ _ _ _ _ _ _ _ _ _ w' (hH.chg.nil_blk hx) (hH.chg.nil_blk hc) (hn.chg hH.chg) hl (ha.chg hH.chg) (OwnC.sl hH 1 rfl hO22)) rfl (fun _ _ _ h => by obtain ⟨_, _, _, _, hg, _⟩ := h; exact hg) ?_
 clear hH
 intro w28 v29 w30 hH hp31
 obtain ⟨o32, cap33, cs34, rfl, hg, hO35, hfr⟩ := hp31
 replace hH := hH.callown hg hfr
 clear hg hfr
 (try simp only [nf, nh, Value.cells, arrB_set] at hH ⊢)
 (try simp only [nf])
 refine plan_append 1 rfl rfl hH rfl hO22 (fun w' hH => ((OwnC.sl hH 2 rfl hO35)).src) rfl rfl Tryd.underlying22 Tryd.underlying22 (.inl ⟨_, rfl⟩) sz5 bz5 ze5 rfl (by first | omega | (simp only [sealL_len, strm_len]; omega)) (by first | omega | (simp only [sealL_len, strm_len]; omega)) ?_
 clear hH
 intro o36 cap37 cs38 w39 hO40 hH
 (try simp only [nf] at hH ⊢)
 (try simp only [nf, nh, Value.cells, arrB_set] at hH ⊢)
 try rw [← List.map_append] at hO40
 (try simp only [Nat.zero_add, List.nil_append, List.length_nil] at hO40 ⊢)
 refine pa (pka 0 ?_);simp only [nf]
 refine plan_nil hH ?_
 clear hH
 intro w41 hH
 refine hK27 _ _ ?_
 (try clear hK27 K27)
 refine wp_ret ?_
 (try simp only [Exit.then, Exit.inBlock, ↓reduceIte, Nat.reduceEqDiff])
 refine BP.ret2 rfl rfl rfl ?_
 exact ⟨_, _, _, rfl, hH.chg, (by assumption), hH.owned 1 rfl⟩
theorem Open_wrong (bx bc : Nat) (kf : Nat → UInt8) (h : P2) (nv av bv : Value) (nl al bl : List UInt8) (w : World) (hx : Blk w bx 89 #[PT bc 0, V64 h.1, V64 h.2]) (hc : Blk w bc 109 (arr8 176 kf)) (hn : Sl w nv nl) (hl : nl.length = 12) (ha : Sl w av al) (hb : Sl w bv bl) (hbl : bl.length ≤ 140737488355328) (h16 : 16 ≤ bl.length) (hne : sealL kf h nl al (bl.take (bl.length - 16)) ≠ bl.drop (bl.length - 16)) :
    Ret Tryd.prog 36 #[PT bx 0, nv, av, bv] w fun v w' => v = .tuple #[.slice none 0 0, I64 (4 : Nat)] ∧ Chg [] w w' := by
 refine Ret.enter Tryd.func36 rfl ?_
 simp only [Tryd.ntmps36, fe, Nat.reduceAdd, Nat.reduceSub]
 have hH := Hp.start [] w
 refine wp_seq_k ?_
 intro K1 hK1
 refine wrt [.p 0, .p 1] ?_
 refine pa (pka 0 ?_);simp only [nf]
 refine plan_nil hH ?_
 clear hH
 intro w2 hH
 refine hK1 _ _ ?_
 (try clear hK1 K1)
 refine wp_seq_k ?_
 intro K3 hK3
 refine wrt [.p 0, .p 1, .p 2, .p 3] ?_
 refine pm ?_;simp only [nf]
 refine pp rfl rfl (pr_len_Sl (hb.chg hH.chg) rfl Tryd.underlying22) ?_;simp only [nf]
 refine pp rfl rfl (pr_bin rfl rfl (by first | exact bin_sub_n (n := 16) (by omega) (by omega) | exact bin_sub_i (by omega) (by omega))) ?_;simp only [nf]
 refine pa ?_;simp only [nf]
 refine plan_nil hH ?_
 clear hH
 intro w4 hH
 refine hK3 _ _ ?_
 (try clear hK3 K3)
 refine wp_seq_k ?_
 intro K5 hK5
 refine wp_block ?_
 refine wp_seq_k ?_
 intro K6 hK6
 refine wrt [.p 0, .p 1, .p 2, .p 3, .p 4, .p 5, .p 6, .p 7] ?_
 refine pm ?_;simp only [nf]
 refine pp rfl rfl (pr_bin rfl rfl (bin_eql_pn Tryd.underlying59)) ?_;simp only [nf]
 refine plan_p (v := BV false) rfl rfl (pr_move_v rfl) ?_
 (try simp only [nf])
 refine pp rfl rfl pr_move ?_;simp only [nf]
 refine pp rfl rfl (pr_len_Sl (hn.chg hH.chg) rfl Tryd.underlying22) ?_;simp only [nf]
 refine pp rfl rfl (pr_bin rfl rfl (by first | exact bin_neq_n (n := 12)  | exact bin_neq_i)) ?_;simp only [nf]
 refine pp rfl rfl (pr_pick_f rfl) ?_;simp only [nf]
 refine pa ?_;simp only [nf]
 refine plan_nil hH ?_
 clear hH
 intro w7 hH
 refine hK6 _ _ ?_
 (try clear hK6 K6)
 refine wp_cond_false (by show BV _ = _; rw [hl]; rfl) ?_
 refine wp_seq_k ?_
 intro K8 hK8
 refine wrt [.p 0, .p 1, .p 2] ?_
 refine pm ?_;simp only [nf]
 refine pp rfl rfl (pr_bin rfl rfl (by first | exact bin_lss_n (n := 0)  | exact bin_lss_i)) ?_;simp only [nf]
 refine pa ?_;simp only [nf]
 refine plan_nil hH ?_
 clear hH
 intro w9 hH
 refine hK8 _ _ ?_
 (try clear hK8 K8)
 refine wp_cond_false (by show BV _ = _; exact congrArg BV (decide_eq_false (by omega))) ?_
 refine wp_seq_k ?_
 intro K10 hK10
 refine wrp [.p 0, .p 1, .p 2, .p 3, .p 4, .p 5, .p 7, .p 8, .p 9, .x 6, .q 10, .p 11, .p 12] ?_
 refine pm (pm (pm (pm (pm ?_))));simp only [nf]
 refine pp rfl rfl (pr_slice_Sl_h (hb.chg hH.chg) rfl rfl Tryd.underlying22 sz5 (by omega)) ?_;simp only [nf]
 refine pm (pm ?_);simp only [nf]
 refine pp rfl rfl (pr_slice_Sl_l (hb.chg hH.chg) rfl rfl Tryd.underlying22 sz5 (by omega)) ?_;simp only [nf]
 refine plan_callx rfl rfl hH cf47 (fun w' hH => seal_calls _ _ _ _ _ _ _ _ _ _ w' (hH.chg.nil_blk hx) (hH.chg.nil_blk hc) (hn.chg hH.chg) hl (ha.chg hH.chg) (Sl.cuth (hb.chg hH.chg) (by omega))) rfl (fun _ _ _ h => by obtain ⟨_, _, _, _, hg, _⟩ := h; exact hg) ?_
 clear hH
 intro w11 v12 w13 hH hp14
 obtain ⟨o15, cap16, cs17, rfl, hg, hO18, hfr⟩ := hp14
 replace hH := hH.callown hg hfr
 clear hg hfr
 (try simp only [nf, nh, Value.cells, arrB_set] at hH ⊢)
 (try simp only [nf])
 refine pq rfl rfl (qr_call cf50 (fun w' hw => same_calls _ _ _ _ w' (by first | omega | (simp [sealL_len] <;> omega)) ((OwnC.sl hH 0 rfl hO18).chg hw) ((Sl.cutl (hb.chg hH.chg) (by omega)).chg hw)) rfl) ?_;simp only [nf]
 refine pp rfl rfl (pr_not rfl) ?_;simp only [nf]
 refine pa ?_;simp only [nf]
 refine plan_nil hH ?_
 clear hH
 intro w19 hH
 refine hK10 _ _ ?_
 (try clear hK10 K10)
 refine wp_cond_true (by show BV (!_) = _; rw [beq_eq_false_iff_ne.mpr hne]; rfl) ?_
 refine wp_seq_k ?_
 intro K20 hK20
 refine wrt [.p 0, .p 1] ?_
 refine pa (pka 4 ?_);simp only [nf]
 refine plan_nil hH ?_
 clear hH
 intro w21 hH
 refine hK20 _ _ ?_
 (try clear hK20 K20)
 refine wp_ret ?_
 (try simp only [Exit.then, Exit.inBlock, ↓reduceIte, Nat.reduceEqDiff])
 refine BP.ret2 rfl rfl rfl ?_
 exact ⟨rfl, hH.chg⟩
theorem Open_calls (bx bc : Nat) (kf : Nat → UInt8) (h : P2) (nv av bv : Value) (nl al bl : List UInt8) (w : World) (hx : Blk w bx 89 #[PT bc 0, V64 h.1, V64 h.2]) (hc : Blk w bc 109 (arr8 176 kf)) (hn : Sl w nv nl) (hl : nl.length = 12) (ha : Sl w av al) (hb : Sl w bv bl) (hbl : bl.length ≤ 140737488355328) (h16 : 16 ≤ bl.length) (he : sealL kf h nl al (bl.take (bl.length - 16)) = bl.drop (bl.length - 16)) :
    Ret Tryd.prog 36 #[PT bx 0, nv, av, bv] w fun v w' => ∃ o cap cs, v = .tuple #[own o (bl.length - 16) cap, I64 (0 : Nat)] ∧ Chg [] w w' ∧ OwnC o (bl.length - 16) cap 1 cs ((hidL kf nl (bl.take (bl.length - 16))).map V8) ∧ ∀ bo, o = some bo → w.heap.size ≤ bo ∧ Blk w' bo 5 cs := by
 refine Ret.enter Tryd.func36 rfl ?_
 simp only [Tryd.ntmps36, fe, Nat.reduceAdd, Nat.reduceSub]
 have hH := Hp.start [] w
 refine wp_seq_k ?_
 intro K1 hK1
 refine wrt [.p 0, .p 1] ?_
 refine pa (pka 0 ?_);simp only [nf]
 refine plan_nil hH ?_
 clear hH
 intro w2 hH
 refine hK1 _ _ ?_
 (try clear hK1 K1)
 refine wp_seq_k ?_
 intro K3 hK3
 refine wrt [.p 0, .p 1, .p 2, .p 3] ?_
 refine pm ?_;simp only [nf]
 refine pp rfl rfl (pr_len_Sl (hb.chg hH.chg) rfl Tryd.underlying22) ?_;simp only [nf]
 refine pp rfl rfl (pr_bin rfl rfl (by first | exact bin_sub_n (n := 16) (by omega) (by omega) | exact bin_sub_i (by omega) (by omega))) ?_;simp only [nf]
 refine pa ?_;simp only [nf]
 refine plan_nil hH ?_
 clear hH
 intro w4 hH
 refine hK3 _ _ ?_
 (try clear hK3 K3)
 refine wp_seq_k ?_
 intro K5 hK5
 refine wp_block ?_
 refine wp_seq_k ?_
 intro K6 hK6
 refine wrt [.p 0, .p 1, .p 2, .p 3, .p 4, .p 5, .p 6, .p 7] ?_
 refine pm ?_;simp only [nf]
 refine pp rfl rfl (pr_bin rfl rfl (bin_eql_pn Tryd.underlying59)) ?_;simp only [nf]
 refine plan_p (v := BV false) rfl rfl (pr_move_v rfl) ?_
 (try simp only [nf])
 refine pp rfl rfl pr_move ?_;simp only [nf]
 refine pp rfl rfl (pr_len_Sl (hn.chg hH.chg) rfl Tryd.underlying22) ?_;simp only [nf]
 refine pp rfl rfl (pr_bin rfl rfl (by first | exact bin_neq_n (n := 12)  | exact bin_neq_i)) ?_;simp only [nf]
 refine pp rfl rfl (pr_pick_f rfl) ?_;simp only [nf]
 refine pa ?_;simp only [nf]
 refine plan_nil hH ?_
 clear hH
 intro w7 hH
 refine hK6 _ _ ?_
 (try clear hK6 K6)
 refine wp_cond_false (by show BV _ = _; rw [hl]; rfl) ?_
 refine wp_seq_k ?_
 intro K8 hK8
 refine wrt [.p 0, .p 1, .p 2] ?_
 refine pm ?_;simp only [nf]
 refine pp rfl rfl (pr_bin rfl rfl (by first | exact bin_lss_n (n := 0)  | exact bin_lss_i)) ?_;simp only [nf]
 refine pa ?_;simp only [nf]
 refine plan_nil hH ?_
 clear hH
 intro w9 hH
 refine hK8 _ _ ?_
 (try clear hK8 K8)
 refine wp_cond_false (by show BV _ = _; exact congrArg BV (decide_eq_false (by omega))) ?_
 refine wp_seq_k ?_
 intro K10 hK10
 refine wrp [.p 0, .p 1, .p 2, .p 3, .p 4, .p 5, .p 7, .p 8, .p 9, .x 6, .q 10, .p 11, .p 12] ?_
 refine pm (pm (pm (pm (pm ?_))));simp only [nf]
 refine pp rfl rfl (pr_slice_Sl_h (hb.chg hH.chg) rfl rfl Tryd.underlying22 sz5 (by omega)) ?_;simp only [nf]
 refine pm (pm ?_);simp only [nf]
 refine pp rfl rfl (pr_slice_Sl_l (hb.chg hH.chg) rfl rfl Tryd.underlying22 sz5 (by omega)) ?_;simp only [nf]
 refine plan_callx rfl rfl hH cf47 (fun w' hH => seal_calls _ _ _ _ _ _ _ _ _ _ w' (hH.chg.nil_blk hx) (hH.chg.nil_blk hc) (hn.chg hH.chg) hl (ha.chg hH.chg) (Sl.cuth (hb.chg hH.chg) (by omega))) rfl (fun _ _ _ h => by obtain ⟨_, _, _, _, hg, _⟩ := h; exact hg) ?_
 clear hH
 intro w11 v12 w13 hH hp14
 obtain ⟨o15, cap16, cs17, rfl, hg, hO18, hfr⟩ := hp14
 replace hH := hH.callown hg hfr
 clear hg hfr
 (try simp only [nf, nh, Value.cells, arrB_set] at hH ⊢)
 (try simp only [nf])
 refine pq rfl rfl (qr_call cf50 (fun w' hw => same_calls _ _ _ _ w' (by first | omega | (simp [sealL_len] <;> omega)) ((OwnC.sl hH 0 rfl hO18).chg hw) ((Sl.cutl (hb.chg hH.chg) (by omega)).chg hw)) rfl) ?_;simp only [nf]
 refine pp rfl rfl (pr_not rfl) ?_;simp only [nf]
 refine pa ?_;simp only [nf]
 refine plan_nil hH ?_
 clear hH
 intro w19 hH
 refine hK10 _ _ ?_
 (try clear hK10 K10)
 refine wp_cond_false (by show BV (!_) = _; rw [beq_iff_eq.mpr he]; rfl) ?_
 refine wp_skip ?_
 refine hK5 _ _ ?_
 (try clear hK5 K5)
 refine wp_seq_k ?_
 intro K20 hK20
 refine wrp [.p 0, .p 1, .p 2, .p 4, .p 6, .p 7, .p 8, .q 3, .x 5, .x 9, .p 10, .p 11, .p 12, .p 13] ?_
 refine pm ?_;simp only [nf]
 refine pp rfl rfl (pr_nilCheck rfl) ?_;simp only [nf]
 refine pp rfl rfl (pr_fieldAddr 0 rfl Tryd.underlying89 rfl rfl sz80) ?_;simp only [nf]
 refine pm (pm (pm ?_));simp only [nf]
 refine pp rfl rfl (pr_slice_Sl_h (hb.chg hH.chg) rfl rfl Tryd.underlying22 sz5 (by omega)) ?_;simp only [nf]
 refine pq rfl rfl (qr_load1 rfl Tryd.underlying80 rfl ((hH.chg.nil_blk hx).cell rfl)) ?_;simp only [nf]
 refine plan_callx rfl rfl hH cf46 (fun w' hH => counter_calls _ _ 2 w' (hn.chg hH.chg) hl) rfl (fun _ _ _ h => by obtain ⟨_, _, _, _, hg, _⟩ := h; exact hg) ?_
 clear hH
 intro w21 v22 w23 hH hp24
 obtain ⟨o25, cap26, cs27, rfl, hg, hO28, hfr⟩ := hp24
 replace hH := hH.callown hg hfr
 clear hg hfr
 (try simp only [nf, nh, Value.cells, arrB_set] at hH ⊢)
 (try simp only [nf])
 refine plan_callx rfl rfl hH cf45 (fun w' hH => stream_calls _ _ (gctr nl 2) _ _ 0 _ _ w' (hH.chg.nil_blk hc) (OwnC.sl hH 1 rfl hO28) (by simp [hl]) (fun i hi => rfl) (Sl.cuth (hb.chg hH.chg) (by omega)) (by omega) (by first | omega | (simp <;> omega))) rfl (fun _ _ _ h => by obtain ⟨_, _, _, _, hg, _⟩ := h; exact hg) ?_
 clear hH
 intro w29 v30 w31 hH hp32
 obtain ⟨o33, cap34, cs35, rfl, hg, hO36, hfr⟩ := hp32
 replace hH := hH.callown hg hfr
 clear hg hfr
 (try simp only [nf, nh, Value.cells, arrB_set] at hH ⊢)
 (try simp only [nf])
 refine pp rfl rfl (pr_extract rfl rfl) ?_;simp only [nf]
 refine pp rfl rfl (pr_extract rfl rfl) ?_;simp only [nf]
 refine pa (pa ?_);simp only [nf]
 refine plan_nil hH ?_
 clear hH
 intro w37 hH
 refine hK20 _ _ ?_
 (try clear hK20 K20)
 refine wp_ret ?_
 (try simp only [Exit.then, Exit.inBlock, ↓reduceIte, Nat.reduceEqDiff])
 refine BP.ret2 rfl rfl rfl ?_
 rw [show (bl.take (bl.length - 16)).length = bl.length - 16 by simp] at *
 exact ⟨_, _, _, rfl, hH.chg, (by unfold hidL; rw [show (bl.take (bl.length - 16)).length = bl.length - 16 by simp]; assumption), hH.owned 2 rfl⟩
end Go.Proofs.YtmoaddicejohgaaDoor
set_option linter.unusedSimpArgs false
set_option linter.unusedVariables false
set_option maxRecDepth 100000
namespace Go.Proofs.YtmoaddicejohgaaDoor
open Go
def xs (f : Nat → Nat) : Nat → Nat
  | 0 => 0
  | n + 1 => xs f n ^^^ f n
def cf (a i : Nat) : Bool := a.testBit (127 - i)
def e0 : Nat := 2 ^ 127
def e1 : Nat := 2 ^ 126
end Go.Proofs.YtmoaddicejohgaaDoor
set_option linter.unusedSimpArgs false
set_option linter.unusedVariables false
set_option maxRecDepth 100000
set_option maxHeartbeats 4000000
namespace Go.Proofs.YtmoaddicejohgaaDoor
open Go
open List (getD_cons_zero getD_cons_succ set_cons_zero set_cons_succ)
theorem str_len (s : ByteArray) : s.data.toList.length = s.size := rfl
theorem bsz (l : List UInt8) : (ByteArray.mk l.toArray).size = l.length := by simp [ByteArray.size]
end Go.Proofs.YtmoaddicejohgaaDoor
set_option linter.unusedSimpArgs false
set_option linter.unusedVariables false
set_option maxRecDepth 100000
set_option maxHeartbeats 4000000
namespace Go.Proofs.YtmoaddicejohgaaDoor
open Go
open List (getD_cons_zero getD_cons_succ set_cons_zero set_cons_succ)
theorem sealedL_len (K : Nat → UInt8) (h : P2) (nl al bl : List UInt8) : (sealedL K h nl al bl).length = bl.length + 16 := by
  unfold sealedL; rw [List.length_append, hidL_len, sealL_len]
end Go.Proofs.YtmoaddicejohgaaDoor
set_option linter.unusedSimpArgs false
set_option linter.unusedVariables false
set_option maxRecDepth 100000
set_option maxHeartbeats 4000000
namespace Go.Proofs.YtmoaddicejohgaaDoor
open Go
open List (getD_cons_zero getD_cons_succ set_cons_zero set_cons_succ)
def rightB (a b c : ByteArray) : Bool := a.size == 16 && (b.size == 12 && c.size == 16)
def nonL (l : List UInt8) (n : Nat) : Nat → List UInt8
  | 0 => l
  | i + 1 => (nonL l n i).set (11 - i) ((nonL l n i).getD (11 - i) 0 ^^^ UInt8.ofNat (n / 2 ^ (8 * i)))
@[simp] theorem nonL_len (l : List UInt8) (n i : Nat) : (nonL l n i).length = l.length := by
  induction i with
  | zero => rfl
  | succ i ih => simp [nonL, ih]
theorem right_a (a b c : ByteArray) (w : World) (h : a.size ≠ 16) : Ret Tryd.prog 27 #[.agg #[.string a, .string b, .string c]] w fun v w' => v = BV false ∧ Chg [] w w' := by
 refine Ret.enter Tryd.func27 rfl ?_
 simp only [Tryd.ntmps27, fe, Nat.reduceAdd, Nat.reduceSub]
 have hH := Hp.start [] w
 refine wp_seq_k ?_
 intro K1 hK1
 refine wrt [.x 0, .p 1] ?_
 refine plan_box rfl rfl hH rfl ?_
 clear hH
 intro b2 w3 hH
 (try simp only [nf, nh, Value.cells, arrB_set] at hH ⊢)
 refine pa ?_;simp only [nf]
 refine plan_nil hH ?_
 clear hH
 intro w4 hH
 refine hK1 _ _ ?_
 (try clear hK1 K1)
 refine wp_seq_k ?_
 intro K5 hK5
 refine wrt [.p 0, .q 1, .p 2, .p 3, .p 4, .p 5, .q 6, .p 7, .p 8, .p 9, .p 10, .p 11, .q 12, .p 13, .p 14, .p 15, .p 16] ?_
 refine pp rfl rfl (pr_fieldAddr 0 rfl Tryd.underlying37 rfl rfl sz9) ?_;simp only [nf]
 refine pq rfl rfl (qr_load1 rfl Tryd.underlying9 rfl ((hH.blk 0 rfl).cell rfl)) ?_;simp only [nf]
 refine pp rfl rfl (pr_len_str rfl Tryd.underlying9) ?_;simp only [nf]
 refine pp rfl rfl (pr_bin rfl rfl (by first | exact bin_eql_n (n := 16)  | exact bin_eql_i)) ?_;simp only [nf]
 refine plan_p (v := BV false) rfl rfl (pr_move_v (by show BV _ = _; exact congrArg BV (beq_eq_false_iff_ne.2 h))) ?_
 (try simp only [nf])
 refine plan_ps rfl rfl ?_
 (try simp only [nf])
 refine plan_qs rfl rfl ?_
 (try simp only [nf])
 refine plan_ps rfl rfl ?_
 (try simp only [nf])
 refine plan_ps rfl rfl ?_
 (try simp only [nf])
 refine pp rfl rfl (pr_pick_f rfl) ?_;simp only [nf]
 refine plan_p (v := BV false) rfl rfl (pr_move_v rfl) ?_
 (try simp only [nf])
 refine plan_ps rfl rfl ?_
 (try simp only [nf])
 refine plan_qs rfl rfl ?_
 (try simp only [nf])
 refine plan_ps rfl rfl ?_
 (try simp only [nf])
 refine plan_ps rfl rfl ?_
 (try simp only [nf])
 refine pp rfl rfl (pr_pick_f rfl) ?_;simp only [nf]
 refine pa ?_;simp only [nf]
 refine plan_nil hH ?_
 clear hH
 intro w6 hH
 refine hK5 _ _ ?_
 (try clear hK5 K5)
 refine wp_ret ?_
 (try simp only [Exit.then, Exit.inBlock, ↓reduceIte, Nat.reduceEqDiff])
 refine BP.ret1 rfl rfl ?_
 exact ⟨rfl, hH.chg⟩
theorem right_b (a b c : ByteArray) (w : World) (h : a.size = 16) (h2 : b.size ≠ 12) : Ret Tryd.prog 27 #[.agg #[.string a, .string b, .string c]] w fun v w' => v = BV false ∧ Chg [] w w' := by
 refine Ret.enter Tryd.func27 rfl ?_
 simp only [Tryd.ntmps27, fe, Nat.reduceAdd, Nat.reduceSub]
 have hH := Hp.start [] w
 refine wp_seq_k ?_
 intro K1 hK1
 refine wrt [.x 0, .p 1] ?_
 refine plan_box rfl rfl hH rfl ?_
 clear hH
 intro b2 w3 hH
 (try simp only [nf, nh, Value.cells, arrB_set] at hH ⊢)
 refine pa ?_;simp only [nf]
 refine plan_nil hH ?_
 clear hH
 intro w4 hH
 refine hK1 _ _ ?_
 (try clear hK1 K1)
 refine wp_seq_k ?_
 intro K5 hK5
 refine wrt [.p 0, .q 1, .p 2, .p 3, .p 4, .p 5, .q 6, .p 7, .p 8, .p 9, .p 10, .p 11, .q 12, .p 13, .p 14, .p 15, .p 16] ?_
 refine pp rfl rfl (pr_fieldAddr 0 rfl Tryd.underlying37 rfl rfl sz9) ?_;simp only [nf]
 refine pq rfl rfl (qr_load1 rfl Tryd.underlying9 rfl ((hH.blk 0 rfl).cell rfl)) ?_;simp only [nf]
 refine pp rfl rfl (pr_len_str rfl Tryd.underlying9) ?_;simp only [nf]
 refine pp rfl rfl (pr_bin rfl rfl (by first | exact bin_eql_n (n := 16)  | exact bin_eql_i)) ?_;simp only [nf]
 refine plan_p (v := BV true) rfl rfl (pr_move_v (by show BV _ = _; exact congrArg BV (beq_iff_eq.2 h))) ?_
 (try simp only [nf])
 refine pp rfl rfl (pr_fieldAddr 1 rfl Tryd.underlying37 rfl rfl sz9) ?_;simp only [nf]
 refine pq rfl rfl (qr_load1 rfl Tryd.underlying9 rfl ((hH.blk 0 rfl).cell rfl)) ?_;simp only [nf]
 refine pp rfl rfl (pr_len_str rfl Tryd.underlying9) ?_;simp only [nf]
 refine pp rfl rfl (pr_bin rfl rfl (by first | exact bin_eql_n (n := 12)  | exact bin_eql_i)) ?_;simp only [nf]
 refine pp rfl rfl (pr_pick_t rfl) ?_;simp only [nf]
 refine plan_p (v := BV false) rfl rfl (pr_move_v (by show BV _ = _; exact congrArg BV (beq_eq_false_iff_ne.2 h2))) ?_
 (try simp only [nf])
 refine plan_ps rfl rfl ?_
 (try simp only [nf])
 refine plan_qs rfl rfl ?_
 (try simp only [nf])
 refine plan_ps rfl rfl ?_
 (try simp only [nf])
 refine plan_ps rfl rfl ?_
 (try simp only [nf])
 refine pp rfl rfl (pr_pick_f rfl) ?_;simp only [nf]
 refine pa ?_;simp only [nf]
 refine plan_nil hH ?_
 clear hH
 intro w6 hH
 refine hK5 _ _ ?_
 (try clear hK5 K5)
 refine wp_ret ?_
 (try simp only [Exit.then, Exit.inBlock, ↓reduceIte, Nat.reduceEqDiff])
 refine BP.ret1 rfl rfl ?_
 exact ⟨rfl, hH.chg⟩
theorem right_c (a b c : ByteArray) (w : World) (h : a.size = 16) (h2 : b.size = 12) : Ret Tryd.prog 27 #[.agg #[.string a, .string b, .string c]] w fun v w' => v = BV (c.size == 16) ∧ Chg [] w w' := by
 refine Ret.enter Tryd.func27 rfl ?_
 simp only [Tryd.ntmps27, fe, Nat.reduceAdd, Nat.reduceSub]
 have hH := Hp.start [] w
 refine wp_seq_k ?_
 intro K1 hK1
 refine wrt [.x 0, .p 1] ?_
 refine plan_box rfl rfl hH rfl ?_
 clear hH
 intro b2 w3 hH
 (try simp only [nf, nh, Value.cells, arrB_set] at hH ⊢)
 refine pa ?_;simp only [nf]
 refine plan_nil hH ?_
 clear hH
 intro w4 hH
 refine hK1 _ _ ?_
 (try clear hK1 K1)
 refine wp_seq_k ?_
 intro K5 hK5
 refine wrt [.p 0, .q 1, .p 2, .p 3, .p 4, .p 5, .q 6, .p 7, .p 8, .p 9, .p 10, .p 11, .q 12, .p 13, .p 14, .p 15, .p 16] ?_
 refine pp rfl rfl (pr_fieldAddr 0 rfl Tryd.underlying37 rfl rfl sz9) ?_;simp only [nf]
 refine pq rfl rfl (qr_load1 rfl Tryd.underlying9 rfl ((hH.blk 0 rfl).cell rfl)) ?_;simp only [nf]
 refine pp rfl rfl (pr_len_str rfl Tryd.underlying9) ?_;simp only [nf]
 refine pp rfl rfl (pr_bin rfl rfl (by first | exact bin_eql_n (n := 16)  | exact bin_eql_i)) ?_;simp only [nf]
 refine plan_p (v := BV true) rfl rfl (pr_move_v (by show BV _ = _; exact congrArg BV (beq_iff_eq.2 h))) ?_
 (try simp only [nf])
 refine pp rfl rfl (pr_fieldAddr 1 rfl Tryd.underlying37 rfl rfl sz9) ?_;simp only [nf]
 refine pq rfl rfl (qr_load1 rfl Tryd.underlying9 rfl ((hH.blk 0 rfl).cell rfl)) ?_;simp only [nf]
 refine pp rfl rfl (pr_len_str rfl Tryd.underlying9) ?_;simp only [nf]
 refine pp rfl rfl (pr_bin rfl rfl (by first | exact bin_eql_n (n := 12)  | exact bin_eql_i)) ?_;simp only [nf]
 refine pp rfl rfl (pr_pick_t rfl) ?_;simp only [nf]
 refine plan_p (v := BV true) rfl rfl (pr_move_v (by show BV _ = _; exact congrArg BV (beq_iff_eq.2 h2))) ?_
 (try simp only [nf])
 refine pp rfl rfl (pr_fieldAddr 2 rfl Tryd.underlying37 rfl rfl sz9) ?_;simp only [nf]
 refine pq rfl rfl (qr_load1 rfl Tryd.underlying9 rfl ((hH.blk 0 rfl).cell rfl)) ?_;simp only [nf]
 refine pp rfl rfl (pr_len_str rfl Tryd.underlying9) ?_;simp only [nf]
 refine pp rfl rfl (pr_bin rfl rfl (by first | exact bin_eql_n (n := 16)  | exact bin_eql_i)) ?_;simp only [nf]
 refine pp rfl rfl (pr_pick_t rfl) ?_;simp only [nf]
 refine pa ?_;simp only [nf]
 refine plan_nil hH ?_
 clear hH
 intro w6 hH
 refine hK5 _ _ ?_
 (try clear hK5 K5)
 refine wp_ret ?_
 (try simp only [Exit.then, Exit.inBlock, ↓reduceIte, Nat.reduceEqDiff])
 refine BP.ret1 rfl rfl ?_
 exact ⟨rfl, hH.chg⟩
theorem right_calls (a b c : ByteArray) (w : World) : Ret Tryd.prog 27 #[.agg #[.string a, .string b, .string c]] w fun v w' => v = BV (rightB a b c) ∧ Chg [] w w' := by
  unfold rightB
  by_cases h : a.size = 16
  · by_cases h2 : b.size = 12
    · rw [beq_iff_eq.2 h, beq_iff_eq.2 h2]; exact right_c a b c w h h2
    · rw [beq_iff_eq.2 h, beq_eq_false_iff_ne.2 h2]; exact right_b a b c w h h2
  · rw [beq_eq_false_iff_ne.2 h]; exact right_a a b c w h
theorem nonce_calls (a b c : ByteArray) (n : Nat) (w : World) (hb : b.size = 12) (hn : n < 9223372036854775808) : Ret Tryd.prog 29 #[.agg #[.string a, .string b, .string c], I64 n] w fun v w' => ∃ o cap cs, v = own o 12 cap ∧ Chg [] w w' ∧ OwnC o 12 cap 1 cs ((nonL b.data.toList n 8).map V8) ∧ ∀ b, o = some b → w.heap.size ≤ b ∧ Blk w' b 5 cs := by
 have hsl : b.data.toList.length = b.size := by simp
 refine Ret.enter Tryd.func29 rfl ?_
 simp only [Tryd.ntmps29, fe, Nat.reduceAdd, Nat.reduceSub]
 have hH := Hp.start [] w
 refine wp_seq_k ?_
 intro K1 hK1
 refine wrt [.x 0, .p 1] ?_
 refine plan_box rfl rfl hH rfl ?_
 clear hH
 intro b2 w3 hH
 (try simp only [nf, nh, Value.cells, arrB_set] at hH ⊢)
 refine pa ?_;simp only [nf]
 refine plan_nil hH ?_
 clear hH
 intro w4 hH
 refine hK1 _ _ ?_
 (try clear hK1 K1)
 refine wp_seq_k ?_
 intro K5 hK5
 refine wrt [.p 0, .q 1, .x 2, .p 3] ?_
 refine pp rfl rfl (pr_fieldAddr 1 rfl Tryd.underlying37 rfl rfl sz9) ?_;simp only [nf]
 refine pq rfl rfl (qr_load1 rfl Tryd.underlying9 rfl ((hH.blk 0 rfl).cell rfl)) ?_;simp only [nf]
 refine plan_s2b rfl rfl hH rfl Tryd.underlying9 Tryd.underlying22 Tryd.underlying5 ?_
 clear hH
 intro b6 cap7 cs8 w9 hO10 hH
 (try simp only [nf] at hH ⊢)
 (try simp only [nf, nh, Value.cells, arrB_set] at hH ⊢)
 refine pa ?_;simp only [nf]
 refine plan_nil hH ?_
 clear hH
 intro w11 hH
 refine hK5 _ _ ?_
 (try clear hK5 K5)
 refine wp_seq_k ?_
 intro K12 hK12
 refine wp_seq_k ?_
 intro K13 hK13
 refine wrt [.p 0] ?_
 refine pk 0 ?_;simp only [nf]
 refine plan_nil hH ?_
 clear hH
 intro w14 hH
 refine hK13 _ _ ?_
 (try clear hK13 K13)
 refine wp_block ?_
 obtain ⟨kc15, hkc16, hN⟩ := hH.name 0 rfl
 replace hH := hN; clear hN; simp only [List.set_cons_zero, List.set_cons_succ] at hH
 refine wp_loopT [10] [6, 11, 12, 13, 14, 15, 16, 17, 18, 19, 20, 21, 22, 23, 24, 25] (fun (n17 : Nat) (vs : List Value) (w' : World) => ∃ (i : Nat) (cs : Array Value), vs = [I64 (i : Nat)] ∧ Hp [] w w' [(some b2, 37, kc15), (some b6, 5, cs)] ∧ n17 = 8 - i ∧ i ≤ 8 ∧ OwnC (some b6) b.size cap7 1 cs ((nonL b.data.toList n i).map V8)) (8 - 0) (by kernel_rfl) ?_ ?_
 ·
  simp only [ga]
  refine ⟨0, cs8, rfl, ?_, rfl, ?_, ?_⟩
  ·
   exact hH
  · first | omega | (omega)
  · first | omega | (exact hO10)
 clear hH
 intro n17 vs18 w19 hR20 d0
 obtain ⟨i, cs, rfl, hH, hn21, hf22, hO⟩ := hR20
 simp only [putAll, putD, List.set_cons_zero, List.set_cons_succ, Nat.zero_add, Nat.reduceAdd]
 subst hkc16
 refine wp_seq_k ?_
 intro K23 hK23
 refine wrt [.p 0] ?_
 refine pp rfl rfl (pr_bin rfl rfl (by first | exact bin_lss_n (n := 8)  | exact bin_lss_i)) ?_;simp only [nf]
 refine plan_nil hH ?_
 clear hH
 intro w24 hH
 refine hK23 _ _ ?_
 (try clear hK23 K23)
 refine wp_seq_k ?_
 intro K25 hK25
 refine wp_cond_split rfl (fun hc26 => ?_) (fun hc26 => ?_)
 ·
  (try simp only [cnd] at hc26)
  refine wp_skip ?_
  refine hK25 _ _ ?_
  (try clear hK25 K25)
  refine wp_seq_k ?_
  intro K27 hK27
  refine wp_block ?_
  refine wp_seq_k ?_
  intro K28 hK28
  refine wrt [.p 0, .p 1] ?_
  refine pm (pa ?_);simp only [nf]
  refine plan_nil hH ?_
  clear hH
  intro w29 hH
  refine hK28 _ _ ?_
  (try clear hK28 K28)
  refine wrp [.p 0, .p 1, .p 2, .p 3, .p 5, .p 6, .p 7, .p 8, .p 9, .q 4, .p 10, .p 11, .e 12] ?_
  refine pm (pm ?_);simp only [nf]
  refine pp rfl rfl (pr_bin rfl rfl (by first | exact bin_sub_n (m := 11) (by first | omega | (simp <;> omega)) (by first | omega | (simp <;> omega)) | exact bin_sub_i (by first | omega | (simp <;> omega)) (by first | omega | (simp <;> omega)))) ?_;simp only [nf]
  refine pp rfl rfl (pr_idx_Sl (OwnC.sl hH 1 rfl hO) rfl rfl Tryd.underlying22 sz5 (by first | omega | (simp <;> omega))) ?_;simp only [nf]
  refine pm (pm ?_);simp only [nf]
  refine pp rfl rfl (pr_bin rfl rfl (by first | exact bin_mul_n (m := 8) (by first | omega | (simp <;> omega)) | exact bin_mul_i (by first | omega | (simp <;> omega)) (by first | omega | (simp <;> omega)))) ?_;simp only [nf]
  refine pp rfl rfl (pr_bin rfl rfl (by first | exact bin_shr_n (by first | omega | (simp <;> omega)) | exact bin_shr_i (by first | omega | (simp <;> omega)))) ?_;simp only [nf]
  refine pp rfl rfl (pr_conv rfl (by first | exact cnv_n_u8 Tryd.underlying3 Tryd.underlying5 | exact cnv_i_u8 Tryd.underlying3 Tryd.underlying5)) ?_;simp only [nf]
  refine pq rfl rfl (qr_load1 rfl Tryd.underlying5 rfl (Sl.cell (OwnC.sl hH 1 rfl hO) (by first | omega | (simp <;> omega)))) ?_;simp only [nf]
  refine pp rfl rfl (pr_bin rfl rfl (bin_xor_u8 _ _)) ?_;simp only [nf]
  refine pp rfl rfl (pr_idx_Sl (OwnC.sl hH 1 rfl hO) rfl rfl Tryd.underlying22 sz5 (by first | omega | (simp <;> omega))) ?_;simp only [nf]
  refine plan_storeO 1 rfl rfl hH rfl rfl hO rfl sz5 (by first | omega | (simp <;> omega)) ?_
  clear hH
  intro cs31 w30 hO32 hH
  (try simp only [nf, nh, Value.cells, arrB_set] at hH ⊢)
  refine plan_nil hH ?_
  clear hH
  intro w33 hH
  refine hK27 _ _ ?_
  (try clear hK27 K27)
  refine wrt [.p 0, .p 1] ?_
  refine pp rfl rfl (pr_bin rfl rfl (by first | exact bin_add_n (n := 1) (by first | omega | (simp <;> omega)) | exact bin_add_i (by first | omega | (simp <;> omega)) (by first | omega | (simp <;> omega)))) ?_;simp only [nf]
  refine pm ?_;simp only [nf]
  refine plan_nil hH ?_
  clear hH
  intro w34 hH
  (try simp only [Exit.then, Exit.inBlock, ↓reduceIte, Nat.reduceEqDiff])
  refine ⟨8 - (i + 1), ?_, _, rfl, by kernel_rfl, ?_⟩
  · first | omega | (omega)
  simp only [ga]
  refine ⟨i + 1, cs31, rfl, ?_, rfl, ?_, ?_⟩
  ·
   exact hH
  · first | omega | (omega)
  · first | omega | (unfold nonL; exact hO32)
 ·
  (try simp only [cnd] at hc26)
  refine wp_exit ?_
  (try simp only [Exit.then, Exit.inBlock, ↓reduceIte, Nat.reduceEqDiff])
  refine hK12 _ _ ?_
  (try clear hK12 K12)
  refine wp_seq_k ?_
  intro K35 hK35
  refine wrt [.p 0, .p 1] ?_
  refine pm (pa ?_);simp only [nf]
  refine plan_nil hH ?_
  clear hH
  intro w36 hH
  refine hK35 _ _ ?_
  (try clear hK35 K35)
  refine wp_ret ?_
  (try simp only [Exit.then, Exit.inBlock, ↓reduceIte, Nat.reduceEqDiff])
  refine BP.ret1 rfl rfl ?_
  obtain rfl : i = 8 := by omega
  rw [hb] at hO ⊢
  exact ⟨_, _, _, rfl, hH.chg, hO, hH.owned 1 rfl⟩
end Go.Proofs.YtmoaddicejohgaaDoor
set_option linter.unusedSimpArgs false
set_option linter.unusedVariables false
namespace Go.Proofs.YtmoaddicejohgaaDoor
open Go
section
variable {P : Program} {t : TypeId} {x y : Operand}
theorem bin_or_n {m n : Nat} (hm : m < 9223372036854775808) (hn : n < 9223372036854775808) : Bin P .or t x y (I64 m) (I64 n) (I64 (m ||| n : Nat)) := bin_of_int fun w => by
  simp only [binOp, Op.intBits, ofInt_nat]
  have h : (IntKind.i64.wrap (((BitVec.ofNat 64 m) ||| (BitVec.ofNat 64 n)).toNat : Int)) = ((m ||| n : Nat) : Int) := by
    have hb : m ||| n < 9223372036854775808 := Nat.or_lt_two_pow (n := 63) hm hn
    rw [BitVec.toNat_or, BitVec.toNat_ofNat, BitVec.toNat_ofNat, Nat.mod_eq_of_lt (by omega), Nat.mod_eq_of_lt (by omega)]
    exact wrap_i64_in _ (by omega) (by omega)
  show Result.ok (Value.int .i64 (IntKind.i64.wrap (((BitVec.ofNat 64 m) ||| (BitVec.ofNat 64 n)).toNat : Int))) w = _
  rw [h]
theorem bin_and_n {m n : Nat} (hm : m < 9223372036854775808) (hn : n < 9223372036854775808) : Bin P .and t x y (I64 m) (I64 n) (I64 (m &&& n : Nat)) := bin_of_int fun w => by
  simp only [binOp, Op.intBits, ofInt_nat]
  have h : (IntKind.i64.wrap (((BitVec.ofNat 64 m) &&& (BitVec.ofNat 64 n)).toNat : Int)) = ((m &&& n : Nat) : Int) := by
    have hb : m &&& n < 9223372036854775808 := Nat.and_lt_two_pow (n := 63) _ hn
    rw [BitVec.toNat_and, BitVec.toNat_ofNat, BitVec.toNat_ofNat, Nat.mod_eq_of_lt (by omega), Nat.mod_eq_of_lt (by omega)]
    exact wrap_i64_in _ (by omega) (by omega)
  show Result.ok (Value.int .i64 (IntKind.i64.wrap (((BitVec.ofNat 64 m) &&& (BitVec.ofNat 64 n)).toNat : Int))) w = _
  rw [h]
theorem bin_andNot_n {m n : Nat} (hm : m < 9223372036854775808) (hn : n < 9223372036854775808) : Bin P .andNot t x y (I64 m) (I64 n) (I64 (m &&& (18446744073709551615 - n) : Nat)) := bin_of_int fun w => by
  simp only [binOp, Op.intBits, ofInt_nat]
  have h : (IntKind.i64.wrap (((BitVec.ofNat 64 m) &&& ~~~(BitVec.ofNat 64 n)).toNat : Int)) = ((m &&& (18446744073709551615 - n) : Nat) : Int) := by
    have hb : m &&& (18446744073709551615 - n) ≤ m := Nat.and_le_left
    rw [BitVec.toNat_and, BitVec.toNat_not, BitVec.toNat_ofNat, BitVec.toNat_ofNat, Nat.mod_eq_of_lt (by omega), Nat.mod_eq_of_lt (by omega), show 2 ^ 64 - 1 - n = 18446744073709551615 - n from rfl]
    exact wrap_i64_in _ (by omega) (by omega)
  show Result.ok (Value.int .i64 (IntKind.i64.wrap (((BitVec.ofNat 64 m) &&& ~~~(BitVec.ofNat 64 n)).toNat : Int))) w = _
  rw [h]
end
end Go.Proofs.YtmoaddicejohgaaDoor
set_option linter.unusedSimpArgs false
set_option linter.unusedVariables false
set_option maxRecDepth 100000
set_option maxHeartbeats 4000000
namespace Go.Proofs.YtmoaddicejohgaaDoor
open Go
open List (getD_cons_zero getD_cons_succ set_cons_zero set_cons_succ)
def lowN (l : List UInt8) : Nat → Nat
  | 0 => 0
  | i + 1 => lowN l i * 2 ^ 8 ||| (l.getD i 0).toNat
theorem lowN_lt (l : List UInt8) : ∀ i, lowN l i < 2 ^ (8 * i)
  | 0 => Nat.zero_lt_one
  | i + 1 => by
    have ih := lowN_lt l i
    unfold lowN
    have h2 : (2 : Nat) ^ (8 * (i + 1)) = 2 ^ (8 * i) * 2 ^ 8 := by rw [← Nat.pow_add]; rfl
    refine Nat.or_lt_two_pow ?_ ?_
    · rw [h2]; exact Nat.mul_lt_mul_of_pos_right ih (by decide)
    · have := lt_u8 (l.getD i 0)
      have h3 : 1 ≤ 2 ^ (8 * i) := Nat.one_le_two_pow
      rw [h2]
      calc (l.getD i 0).toNat < 256 := this
        _ = 1 * 2 ^ 8 := rfl
        _ ≤ 2 ^ (8 * i) * 2 ^ 8 := Nat.mul_le_mul_right _ h3
theorem lowN_32 (l : List UInt8) (i : Nat) (h : i ≤ 4) : lowN l i < 4294967296 := Nat.lt_of_lt_of_le (lowN_lt l i) (by
  have : (2 : Nat) ^ (8 * i) ≤ 2 ^ 32 := Nat.pow_le_pow_right (by decide) (by omega)
  exact this)
theorem low_calls (v : Value) (l : List UInt8) (w : World) (hv : Sl w v l) (hl : l.length ≤ 4) : Ret Tryd.prog 28 #[v] w fun v' w' => v' = I64 (lowN l l.length : Nat) ∧ Chg [] w w' := by
 refine Ret.enter Tryd.func28 rfl ?_
 simp only [Tryd.ntmps28, fe, Nat.reduceAdd, Nat.reduceSub]
 have hH := Hp.start [] w
 refine wp_seq_k ?_
 intro K1 hK1
 refine wrt [.p 0] ?_
 refine pka 0 ?_;simp only [nf]
 refine plan_nil hH ?_
 clear hH
 intro w2 hH
 refine hK1 _ _ ?_
 (try clear hK1 K1)
 refine wp_seq_k ?_
 intro K3 hK3
 refine wrt [.p 0] ?_
 refine pka 0 ?_;simp only [nf]
 refine plan_nil hH ?_
 clear hH
 intro w4 hH
 refine hK3 _ _ ?_
 (try clear hK3 K3)
 refine wp_seq_k ?_
 intro K5 hK5
 refine wp_seq_k ?_
 intro K6 hK6
 refine wrt [.p 0, .p 1, .p 2] ?_
 refine pm ?_;simp only [nf]
 refine pp rfl rfl (pr_len_Sl (hv.chg hH.chg) rfl Tryd.underlying22) ?_;simp only [nf]
 refine pk 0 ?_;simp only [nf]
 refine plan_nil hH ?_
 clear hH
 intro w7 hH
 refine hK6 _ _ ?_
 (try clear hK6 K6)
 refine wp_block ?_
 refine wp_loopT [3, 8] [5, 9, 10, 11, 12, 13, 14, 15, 16, 17] (fun (n8 : Nat) (vs : List Value) (w' : World) => ∃ (i : Nat), vs = [I64 (lowN l i : Nat), I64 (i : Nat)] ∧ Hp [] w w' [] ∧ n8 = l.length - i ∧ i ≤ l.length) (l.length - 0) (by kernel_rfl) ?_ ?_
 ·
  simp only [ga]
  refine ⟨0, rfl, ?_, rfl, ?_⟩
  ·
   exact hH
  · first | omega | (omega)
 clear hH
 intro n8 vs9 w10 hR11 d0
 obtain ⟨i, rfl, hH, hn12, hf13⟩ := hR11
 simp only [putAll, putD, List.set_cons_zero, List.set_cons_succ, Nat.zero_add, Nat.reduceAdd]
 have hlw := lowN_32 l i (by omega)
 refine wp_seq_k ?_
 intro K14 hK14
 refine wrt [.p 0] ?_
 refine pp rfl rfl (pr_bin rfl rfl (by first | exact bin_lss_n  | exact bin_lss_i)) ?_;simp only [nf]
 refine plan_nil hH ?_
 clear hH
 intro w15 hH
 refine hK14 _ _ ?_
 (try clear hK14 K14)
 refine wp_seq_k ?_
 intro K16 hK16
 refine wp_cond_split rfl (fun hc17 => ?_) (fun hc17 => ?_)
 ·
  (try simp only [cnd] at hc17)
  refine wp_skip ?_
  refine hK16 _ _ ?_
  (try clear hK16 K16)
  refine wp_seq_k ?_
  intro K18 hK18
  refine wp_block ?_
  refine wp_seq_k ?_
  intro K19 hK19
  refine wrt [.p 0, .q 1, .p 2] ?_
  refine pp rfl rfl (pr_idx_Sl (hv.chg hH.chg) rfl rfl Tryd.underlying22 sz5 (by first | omega | (first | omega | (have := lt_u8 (l.getD i 0); omega)))) ?_;simp only [nf]
  refine pq rfl rfl (qr_load1 rfl Tryd.underlying5 rfl (Sl.cell (hv.chg hH.chg) (by first | omega | (first | omega | (have := lt_u8 (l.getD i 0); omega))))) ?_;simp only [nf]
  refine pa ?_;simp only [nf]
  refine plan_nil hH ?_
  clear hH
  intro w20 hH
  refine hK19 _ _ ?_
  (try clear hK19 K19)
  refine wrt [.p 0, .p 1, .p 2, .p 3, .p 4, .p 5] ?_
  refine pm ?_;simp only [nf]
  refine pp rfl rfl (pr_bin rfl rfl (bin_shl_n (c := 8) (by decide) (by first | omega | (first | omega | (have := lt_u8 (l.getD i 0); omega))))) ?_;simp only [nf]
  refine pm ?_;simp only [nf]
  refine pp rfl rfl (pr_conv rfl (cnv_u8_n _ Tryd.underlying5 Tryd.underlying3)) ?_;simp only [nf]
  refine pp rfl rfl (pr_bin rfl rfl (by first | exact bin_or_n (by first | omega | (first | omega | (have := lt_u8 (l.getD i 0); omega))) (by first | omega | (first | omega | (have := lt_u8 (l.getD i 0); omega))))) ?_;simp only [nf]
  refine pa ?_;simp only [nf]
  refine plan_nil hH ?_
  clear hH
  intro w21 hH
  refine hK18 _ _ ?_
  (try clear hK18 K18)
  refine wrt [.p 0, .p 1] ?_
  refine pp rfl rfl (pr_bin rfl rfl (by first | exact bin_add_n (n := 1) (by first | omega | (first | omega | (have := lt_u8 (l.getD i 0); omega))) | exact bin_add_i (by first | omega | (first | omega | (have := lt_u8 (l.getD i 0); omega))) (by first | omega | (first | omega | (have := lt_u8 (l.getD i 0); omega))))) ?_;simp only [nf]
  refine pm ?_;simp only [nf]
  refine plan_nil hH ?_
  clear hH
  intro w22 hH
  (try simp only [Exit.then, Exit.inBlock, ↓reduceIte, Nat.reduceEqDiff])
  refine ⟨l.length - (i + 1), ?_, _, rfl, by kernel_rfl, ?_⟩
  · first | omega | (omega)
  simp only [ga]
  refine ⟨i + 1, rfl, ?_, rfl, ?_⟩
  ·
   exact hH
  · first | omega | (omega)
 ·
  (try simp only [cnd] at hc17)
  refine wp_exit ?_
  (try simp only [Exit.then, Exit.inBlock, ↓reduceIte, Nat.reduceEqDiff])
  refine hK5 _ _ ?_
  (try clear hK5 K5)
  refine wp_seq_k ?_
  intro K23 hK23
  refine wrt [.p 0, .p 1] ?_
  refine pm (pa ?_);simp only [nf]
  refine plan_nil hH ?_
  clear hH
  intro w24 hH
  refine hK23 _ _ ?_
  (try clear hK23 K23)
  refine wp_ret ?_
  (try simp only [Exit.then, Exit.inBlock, ↓reduceIte, Nat.reduceEqDiff])
  refine BP.ret1 rfl rfl ?_
  obtain rfl : i = l.length := by omega
  exact ⟨rfl, hH.chg⟩
theorem within_calls (a b c : Nat) (w : World) (h : b ≤ a ∧ a ≤ c) : Ret Tryd.prog 49 #[I64 a, I64 b, I64 c] w fun v w' => v = BV true ∧ Chg [] w w' := by
 refine Ret.enter Tryd.func49 rfl ?_
 simp only [Tryd.ntmps49, fe, Nat.reduceAdd, Nat.reduceSub]
 have hH := Hp.start [] w
 refine wp_seq_k ?_
 intro K1 hK1
 refine wrt [.p 0] ?_
 refine pa ?_;simp only [nf]
 refine plan_nil hH ?_
 clear hH
 intro w2 hH
 refine hK1 _ _ ?_
 (try clear hK1 K1)
 refine wp_seq_k ?_
 intro K3 hK3
 refine wrt [.p 0, .p 1, .p 2, .p 3, .p 4, .p 5, .p 6, .p 7, .p 8] ?_
 refine pm (pm ?_);simp only [nf]
 refine pp rfl rfl (pr_bin rfl rfl (by first | exact bin_geq_n  | exact bin_geq_i)) ?_;simp only [nf]
 refine plan_p (v := BV true) rfl rfl (pr_move_v (by show BV _ = _; exact congrArg BV (decide_eq_true (by omega)))) ?_
 (try simp only [nf])
 refine pp rfl rfl pr_move ?_;simp only [nf]
 refine pp rfl rfl pr_move ?_;simp only [nf]
 refine pp rfl rfl (pr_bin rfl rfl (by first | exact bin_leq_n  | exact bin_leq_i)) ?_;simp only [nf]
 refine pp rfl rfl (pr_pick_t rfl) ?_;simp only [nf]
 refine pa ?_;simp only [nf]
 refine plan_nil hH ?_
 clear hH
 intro w4 hH
 refine hK3 _ _ ?_
 (try clear hK3 K3)
 refine wp_ret ?_
 (try simp only [Exit.then, Exit.inBlock, ↓reduceIte, Nat.reduceEqDiff])
 refine BP.ret1 rfl rfl ?_
 exact ⟨congrArg BV (decide_eq_true h.2), hH.chg⟩
end Go.Proofs.YtmoaddicejohgaaDoor
set_option linter.unusedSimpArgs false
set_option linter.unusedVariables false
namespace Go.Proofs.YtmoaddicejohgaaDoor
open Go
theorem Hp.join {S : List Nat} {w0 w w' : World} {L es : List Own} (h : Hp S w0 w L) (k : Hp [] w w' es) : Hp S w0 w' (L ++ es) where
  chg := h.chg.trans' k.chg (by simp)
  own x hx b hb := by
    rcases List.mem_append.1 hx with hx | hx
    · exact (h.call k.chg).own x hx b hb
    · obtain ⟨h1, h2⟩ := k.own x hx b hb
      refine ⟨.inl (Nat.le_trans h.chg.size (h1.resolve_right (by simp))), h2⟩
  apart i j b hi hj := by
    have key : ∀ m : Nat, ((L ++ es)[m]?).bind Own.at = some b → (m < L.length ∧ (L[m]?).bind Own.at = some b) ∨ (L.length ≤ m ∧ (es[m - L.length]?).bind Own.at = some b) := by
      intro m hm
      rw [List.getElem?_append] at hm
      split at hm
      · rename_i h1; exact .inl ⟨h1, hm⟩
      · rename_i h1; exact .inr ⟨by omega, hm⟩
    have cross : ∀ m m' : Nat, (L[m]?).bind Own.at = some b → (es[m']?).bind Own.at = some b → False := by
      intro m m' h1 h2
      obtain ⟨x, hx, hxb⟩ := Option.bind_eq_some_iff.1 h1
      obtain ⟨y, hy, hyb⟩ := Option.bind_eq_some_iff.1 h2
      have a1 := h.lt (List.mem_of_getElem? hx) hxb
      have a2 := (k.own y (List.mem_of_getElem? hy) b hyb).1.resolve_right (by simp)
      omega
    rcases key i hi with ⟨a1, a2⟩ | ⟨a1, a2⟩ <;> rcases key j hj with ⟨c1, c2⟩ | ⟨c1, c2⟩
    · exact h.apart i j b a2 c2
    · exact (cross _ _ a2 c2).elim
    · exact (cross _ _ c2 a2).elim
    · have := k.apart _ _ b a2 c2; omega
theorem Hp.pick1 {S : List Nat} {w0 w : World} {L : List Own} (h : Hp S w0 w L) (i : Nat) {e : Own} (hi : L[i]? = some e) : Hp S w0 w [e] :=
  (h.take 0).add e (fun b hb => h.own e (List.mem_of_getElem? hi) b hb) (fun x hx => by simp at hx)
theorem Hp.pick2 {S : List Nat} {w0 w : World} {L : List Own} (h : Hp S w0 w L) (i j : Nat) {e e' : Own} (hi : L[i]? = some e) (hj : L[j]? = some e') (hij : i ≠ j) : Hp S w0 w [e, e'] := by
  refine (h.pick1 i hi).add e' (fun b hb => h.own e' (List.mem_of_getElem? hj) b hb) (fun x hx b hb hxb => ?_)
  simp only [List.mem_singleton] at hx
  subst hx
  exact hij (h.apart i j b (by rw [hi]; exact hxb) (by rw [hj]; exact hb))
theorem BP.ret4 {P : Program} {fn : Func} {Post : Value → World → Prop} {tm : List Value} {w : World} {t1 t2 t3 t4 : Tmp} {v1 v2 v3 v4 : Value} (hr : fn.results = #[.tmp t1, .tmp t2, .tmp t3, .tmp t4]) (h1 : tm.getD t1 undef = v1) (h2 : tm.getD t2 undef = v2) (h3 : tm.getD t3 undef = v3) (h4 : tm.getD t4 undef = v4) (h : Post (.tuple #[v1, v2, v3, v4]) w) : BP P fn Post .ret ⟨tm.toArray, []⟩ w :=
  .of (v := .tuple #[v1, v2, v3, v4]) (by subst h1; subst h2; subst h3; subst h4; simp [results, hr]) rfl h
section
variable {P : Program} {ops : List Oper} {Q : Exit → Act → World → Prop} {r : List PStep} {a : Act} {w : World} {i j : Nat} {d : Option Tmp} {ty : TypeId} {pos : String} {af : Array Edge} {g : Option (Nat × Bool)} {x y c : Operand} {t t' T : TypeId} {o : Oper} {v : Value} {b : Bool}
theorem wanted_of {pol : Bool} (hg : o.guard = some (j, pol)) (hy : yielded ops.toArray a.tmps j = some b) : Region.wanted o (yielded ops.toArray a.tmps) = (b == pol) := by
  unfold Region.wanted; rw [hg]; simp only [hy]; cases b <;> cases pol <;> rfl
theorem plan_pc_t (ho : ops[i]? = some o) (hg : o.guard = some (j, true)) (hy : yielded ops.toArray a.tmps j = some b) (hrun : b = true → PRun P o a v) (h : wpPlan P ops.toArray Q r (a.put o.dst (cond b v undef)) w) : wpPlan P ops.toArray Q (.p i :: r) a w := by
  cases b with
  | true => exact plan_p ho (by rw [wanted_of hg hy]; rfl) (hrun rfl) h
  | false => exact plan_ps ho (by rw [wanted_of hg hy]; rfl) h
theorem plan_pc_f (ho : ops[i]? = some o) (hg : o.guard = some (j, false)) (hy : yielded ops.toArray a.tmps j = some b) (hrun : b = false → PRun P o a v) (h : wpPlan P ops.toArray Q r (a.put o.dst (cond b undef v)) w) : wpPlan P ops.toArray Q (.p i :: r) a w := by
  cases b with
  | false => exact plan_p ho (by rw [wanted_of hg hy]; rfl) (hrun rfl) h
  | true => exact plan_ps ho (by rw [wanted_of hg hy]; rfl) h
theorem plan_qc_t (ho : ops[i]? = some o) (hg : o.guard = some (j, true)) (hy : yielded ops.toArray a.tmps j = some b) (hrun : b = true → QRun P o a w v) (h : wpPlan P ops.toArray Q r (a.put o.dst (cond b v undef)) w) : wpPlan P ops.toArray Q (.q i :: r) a w := by
  cases b with
  | true => exact plan_q ho (by rw [wanted_of hg hy]; rfl) (hrun rfl) h
  | false => exact plan_qs ho (by rw [wanted_of hg hy]; rfl) h
theorem plan_qc_f (ho : ops[i]? = some o) (hg : o.guard = some (j, false)) (hy : yielded ops.toArray a.tmps j = some b) (hrun : b = false → QRun P o a w v) (h : wpPlan P ops.toArray Q r (a.put o.dst (cond b undef v)) w) : wpPlan P ops.toArray Q (.q i :: r) a w := by
  cases b with
  | false => exact plan_q ho (by rw [wanted_of hg hy]; rfl) (hrun rfl) h
  | true => exact plan_qs ho (by rw [wanted_of hg hy]; rfl) h
theorem pr_pick_or {b' : Bool} (hc : a.eval c = .bool b) (hx : a.eval x = .bool true) (hy : a.eval y = cond b undef (.bool b')) : PRun P ⟨d, .pick c x y, ty, pos, af, g⟩ a (BV (b || b')) := by
  have h := pr_pick (P := P) (d := d) (ty := ty) (pos := pos) (af := af) (g := g) (x := x) (y := y) hc
  cases b with
  | true => rw [if_pos rfl, hx] at h; exact h
  | false => rw [if_neg (by decide), hy] at h; exact h
theorem pr_pick_and {b' : Bool} (hc : a.eval c = .bool b) (hx : a.eval x = cond b (.bool b') undef) (hy : a.eval y = .bool false) : PRun P ⟨d, .pick c x y, ty, pos, af, g⟩ a (BV (b && b')) := by
  have h := pr_pick (P := P) (d := d) (ty := ty) (pos := pos) (af := af) (g := g) (x := x) (y := y) hc
  cases b with
  | true => rw [if_pos rfl, hx] at h; exact h
  | false => rw [if_neg (by decide), hy] at h; exact h
theorem bin_shr_i {m : Int} {cc : Nat} {k : IntKind} (hc : cc < 64) : Bin P .shr t x y (I64 m) (.int k (cc : Int)) (I64 (m / 2 ^ cc)) := bin_of_int fun w => by
  have h0 : ¬ ((cc : Int) < 0) := by omega
  show (Op.shift .shr .i64 m k (cc : Int)).run P w = _
  have e : Int.fdiv m (2 ^ (min cc 64)) = m / 2 ^ cc := by
    rw [Nat.min_eq_left (by omega), Int.fdiv_eq_ediv_of_nonneg _ (Int.le_of_lt (Int.pow_pos (by decide)))]
  simp only [Op.shift, h0, if_false, Int.toNat_natCast, IntKind.bits, e]
  rfl
theorem OwnC.some {o : Option Nat} {n cap s : Nat} {cs : Array Value} {xs : List Value} (h : OwnC o n cap s cs xs) (hn : 0 < n) : ∃ b, o = some b := by
  cases o with
  | none => have := h.nil rfl; have := h.le; omega
  | some b => exact ⟨b, rfl⟩
theorem run_eqGuard_slice (P : Program) (op : BinOp) (t : TypeId) (x y : Operand) (ad : Option Addr) (n k : Nat) (v : Value) (w : World) : (eqGuard op t x y (.slice ad n k) v).run P w = .ok () w := by
  unfold eqGuard; cases op <;> rfl
theorem bin_eql_slnil {e : TypeId} {ad : Option Addr} {n k : Nat} (hu : P.underlying t = some (.slice e)) : Bin P .eql t x y (.slice ad n k) (.slice none 0 0) (BV ad.isNone) := fun w => by
  rw [Sem.run_bind, run_eqGuard_slice]
  exact run_binOp_eql rfl (fun d w => by cases ad <;> simp [Op.equalIn, run_underlying hu]) w
theorem bin_eql_Sl {e : TypeId} {v : Value} {l : List UInt8} (h : Sl w v l) (hne : l ≠ []) (hu : P.underlying t = some (.slice e)) : Bin P .eql t x y v (.slice none 0 0) (BV false) := by
  obtain ⟨ad, c, rfl, _, hr⟩ := h
  obtain ⟨b, o, rfl, _⟩ := hr hne
  exact bin_eql_slnil hu
end
theorem gsl : (∀ a b : Bool, ((a || b) = false) = (a = false ∧ b = false)) ∧ (∀ a b : Bool, ((a || b) = true) = (a = true ∨ b = true)) ∧ (∀ a b : Bool, ((a && b) = true) = (a = true ∧ b = true)) ∧ (∀ a b : Bool, ((a && b) = false) = (a = false ∨ b = false)) ∧
  (∀ a : Bool, ((!a) = true) = (a = false)) ∧ (∀ a : Bool, ((!a) = false) = (a = true)) ∧ (∀ (p : Prop) [Decidable p], (decide p = true) = p) ∧ (∀ (p : Prop) [Decidable p], (decide p = false) = ¬ p) ∧
  (∀ a b : Nat, ((a == b) = true) = (a = b)) ∧ (∀ a b : Nat, ((a == b) = false) = ¬ (a = b)) ∧ (∀ a b : Nat, ((a != b) = true) = ¬ (a = b)) ∧ (∀ a b : Nat, ((a != b) = false) = (a = b)) ∧
  (∀ a b : Int, ((a == b) = true) = (a = b)) ∧ (∀ a b : Int, ((a == b) = false) = ¬ (a = b)) ∧ (∀ a b : Int, ((a != b) = true) = ¬ (a = b)) ∧ (∀ a b : Int, ((a != b) = false) = (a = b)) ∧
  (∀ a b : UInt8, ((a == b) = true) = (a = b)) ∧ (∀ a b : UInt8, ((a == b) = false) = ¬ (a = b)) ∧ (∀ a b : UInt8, ((a != b) = true) = ¬ (a = b)) ∧ (∀ a b : UInt8, ((a != b) = false) = (a = b)) ∧
  (∀ a b : List UInt8, ((a == b) = true) = (a = b)) ∧ (∀ a b : List UInt8, ((a == b) = false) = ¬ (a = b)) ∧
  (∀ a b : Nat, (¬ a < b) = (b ≤ a)) ∧ (∀ a b : Nat, (¬ a ≤ b) = (b < a)) ∧ (∀ a b : Int, (¬ a < b) = (b ≤ a)) ∧ (∀ a b : Int, (¬ a ≤ b) = (b < a)) ∧
  (∀ a b : Nat, (a > b) = (b < a)) ∧ (∀ a b : Nat, (a ≥ b) = (b ≤ a)) ∧ (∀ a b : Int, (a > b) = (b < a)) ∧ (∀ a b : Int, (a ≥ b) = (b ≤ a)) := by
  refine ⟨by simp, by simp, by simp, by simp, by simp, by simp, fun p _ => by simp, fun p _ => by simp, ?_, ?_, ?_, ?_, ?_, ?_, ?_, ?_, ?_, ?_, ?_, ?_, ?_, ?_, ?_, ?_, ?_, ?_, fun _ _ => rfl, fun _ _ => rfl, fun _ _ => rfl, fun _ _ => rfl⟩
  all_goals intro a b
  all_goals simp
end Go.Proofs.YtmoaddicejohgaaDoor
