/- Walks of aes: New and Block, where they answer and where they refuse. No further conditions. -/
import Derived.Test.YtmoaddicejohgaaDoorAes0
set_option linter.unusedSimpArgs false
set_option linter.unusedVariables false
set_option maxRecDepth 100000
set_option maxHeartbeats 4000000
namespace Go.Proofs.YtmoaddicejohgaaDoor
open Go
open List (getD_cons_zero getD_cons_succ set_cons_zero set_cons_succ)

def conN : Nat → UInt8
  | 0 => 1
  | n + 1 => dbl (conN n)
/-- The keys of all rounds, one behind the other. -/
def kexp (key : Nat → UInt8) (n : Nat) : UInt8 :=
  if n < 16 then key n
  else if n % 16 < 4 then kexp key (n - 16) ^^^ (sbox (kexp key (n - n % 16 - 4 + (n % 16 + 1) % 4)).toNat ^^^ (if n % 16 = 0 then conN (n / 16 - 1) else 0))
  else kexp key (n - 16) ^^^ kexp key (n - 4)
termination_by n
decreasing_by all_goals omega
theorem kexp_lo (key : Nat → UInt8) {n : Nat} (h : n < 16) : kexp key n = key n := by rw [kexp, if_pos h]
theorem kexp_a (key : Nat → UInt8) {n : Nat} (h : 16 ≤ n) (h1 : n % 16 < 4) : kexp key n = kexp key (n - 16) ^^^ (sbox (kexp key (n - n % 16 - 4 + (n % 16 + 1) % 4)).toNat ^^^ (if n % 16 = 0 then conN (n / 16 - 1) else 0)) := by
  rw [kexp, if_neg (by omega), if_pos h1]
theorem kexp_b (key : Nat → UInt8) {n : Nat} (h : 16 ≤ n) (h1 : ¬ n % 16 < 4) : kexp key n = kexp key (n - 16) ^^^ kexp key (n - 4) := by
  rw [kexp, if_neg (by omega), if_neg h1]

theorem upd_cut {g : Nat → UInt8} {m m' m'' : Nat} {v : UInt8} (h1 : m' = m) (h2 : m'' = m + 1) (hv : v = g m) (i : Nat) :
    upd (fun n => if n < m then g n else 0) m' v i = if i < m'' then g i else 0 := by
  subst h1 h2 hv
  simp only [upd]
  by_cases h : i = m'
  · subst h; rw [if_pos rfl, if_pos (by omega)]
  · rw [if_neg h]
    by_cases h1 : i < m'
    · rw [if_pos h1, if_pos (by omega)]
    · rw [if_neg h1, if_neg (by omega)]
theorem kstep_a (g : Nat → UInt8) (k j : Nat) (hj : j < 4) (h0 : ¬ j = 0) :
    ((if (k + 1 - 1) * 16 + j < 16 * (k + 1) + j then kexp g ((k + 1 - 1) * 16 + j) else 0) ^^^
      sbox (if (k + 1 - 1) * 16 + (12 + (j + 1) % 4) < 16 * (k + 1) + j then kexp g ((k + 1 - 1) * 16 + (12 + (j + 1) % 4)) else 0).toNat) = kexp g (16 * (k + 1) + j) := by
  rw [if_pos (by omega), if_pos (by omega), kexp_a (n := 16 * (k + 1) + j) _ (by omega) (by omega), if_neg (by omega), UInt8.xor_zero]
  rw [show 16 * (k + 1) + j - 16 = (k + 1 - 1) * 16 + j by omega, show 16 * (k + 1) + j - (16 * (k + 1) + j) % 16 - 4 + ((16 * (k + 1) + j) % 16 + 1) % 4 = (k + 1 - 1) * 16 + (12 + (j + 1) % 4) by omega]
theorem kstep_0 (g : Nat → UInt8) (k j : Nat) (h0 : j = 0) :
    ((if (k + 1 - 1) * 16 + j < 16 * (k + 1) + j then kexp g ((k + 1 - 1) * 16 + j) else 0) ^^^
      (sbox (if (k + 1 - 1) * 16 + (12 + (j + 1) % 4) < 16 * (k + 1) + j then kexp g ((k + 1 - 1) * 16 + (12 + (j + 1) % 4)) else 0).toNat ^^^ conN k)) = kexp g (16 * (k + 1) + j) := by
  subst h0
  rw [if_pos (by omega), if_pos (by omega), kexp_a (n := 16 * (k + 1) + 0) _ (by omega) (by omega), if_pos (by omega)]
  rw [show 16 * (k + 1) + 0 - 16 = (k + 1 - 1) * 16 + 0 by omega, show 16 * (k + 1) + 0 - (16 * (k + 1) + 0) % 16 - 4 + ((16 * (k + 1) + 0) % 16 + 1) % 4 = (k + 1 - 1) * 16 + (12 + (0 + 1) % 4) by omega, show (16 * (k + 1) + 0) / 16 - 1 = k by omega]
theorem kstep_b (g : Nat → UInt8) (k j : Nat) (hj : 4 ≤ j) (hj' : j < 16) :
    ((if (k + 1 - 1) * 16 + j < 16 * (k + 1) + j then kexp g ((k + 1 - 1) * 16 + j) else 0) ^^^
      if (k + 1) * 16 + (j - 4) < 16 * (k + 1) + j then kexp g ((k + 1) * 16 + (j - 4)) else 0) = kexp g (16 * (k + 1) + j) := by
  rw [if_pos (by omega), if_pos (by omega), kexp_b (n := 16 * (k + 1) + j) _ (by omega) (by omega)]
  rw [show 16 * (k + 1) + j - 16 = (k + 1 - 1) * 16 + j by omega, show 16 * (k + 1) + j - 4 = (k + 1) * 16 + (j - 4) by omega]

theorem new_calls (key : Value) (l : List UInt8) (w : World) (hk : Sl w key l) (hl : l.length = 16) :
    Ret Tryd.prog 42 #[key] w fun v w' => ∃ b, v = .tuple #[PT b 0, I64 (0 : Nat)] ∧ Chg [] w w' ∧ w.heap.size ≤ b ∧ Blk w' b 109 (arr8 176 (kexp fun i => l.getD i 0)) := by
 refine Ret.enter Tryd.func42 rfl ?_
 simp only [Tryd.ntmps42, fe, Nat.reduceAdd, Nat.reduceSub]
 have hH := Hp.start [] w
 refine wp_seq_k ?_
 intro K1 hK1
 refine wrt [.p 0, .p 1] ?_
 refine pa (pka 0 ?_);simp only [nf]
 refine plan_nil hH ?_
 clear hH
 intro w2 hH
 refine hK1 _ _ ?_
 (try clear hK1 K1)
 refine wp_seq_k ?_
 intro K3 hK3
 refine wp_seq_k ?_
 intro K4 hK4
 refine wrt [.p 0, .p 1, .p 2] ?_
 refine pm ?_;simp only [nf]
 refine pp rfl rfl (pr_len_Sl (hk.chg hH.chg) rfl Tryd.underlying22) ?_;simp only [nf]
 refine pp rfl rfl (pr_bin rfl rfl (by first | exact bin_neq_n (n := 16)  | exact bin_neq_i)) ?_;simp only [nf]
 refine plan_nil hH ?_
 clear hH
 intro w5 hH
 refine hK4 _ _ ?_
 (try clear hK4 K4)
 refine wp_cond_false (by show BV _ = _; rw [hl]; rfl) ?_
 refine wp_skip ?_
 refine hK3 _ _ ?_
 (try clear hK3 K3)
 refine wp_seq_k ?_
 intro K6 hK6
 refine wrt [.p 0, .x 1, .p 2] ?_
 refine plan_p (v := .agg (arr8 176 fun _ => 0)) rfl rfl (fun w => by kernel_rfl) ?_
 (try simp only [nf])
 refine plan_box rfl rfl hH rfl ?_
 clear hH
 intro b7 w8 hH
 (try simp only [nf, nh, Value.cells] at hH ⊢)
 refine pa ?_;simp only [nf]
 refine plan_nil hH ?_
 clear hH
 intro w9 hH
 refine hK6 _ _ ?_
 (try clear hK6 K6)
 refine wp_seq_k ?_
 intro K10 hK10
 refine wrt [.p 0, .p 1, .p 2, .p 3, .p 4, .p 5, .e 6] ?_
 refine pm ?_;simp only [nf]
 refine pp rfl rfl (pr_nilCheck rfl) ?_;simp only [nf]
 refine pp rfl rfl (pr_fieldAddr 0 rfl Tryd.underlying109 rfl rfl sz107) ?_;simp only [nf]
 refine pp rfl rfl (pr_idxA (i := 0) rfl rfl Tryd.underlying107 sz87 (by omega)) ?_;simp only [nf]
 refine pp rfl rfl (pr_slice_arr_all rfl Tryd.underlying87 sz5) ?_;simp only [nf]
 (try simp only [Nat.mul_one, Nat.zero_add, Nat.add_sub_cancel_left])
 refine pm ?_;simp only [nf]
 refine plan_copy 0 rfl rfl hH rfl (fun w' hH => ((hk.chg hH.chg)).csrc) rfl rfl Tryd.underlying22 sz5 (by omega) ?_
 clear hH
 intro w11 hH
 (try simp only [nf, nh, Value.cells] at hH ⊢)
 refine plan_nil hH ?_
 clear hH
 intro w12 hH
 refine hK10 _ _ ?_
 (try clear hK10 K10)
 refine wp_seq_k ?_
 intro K13 hK13
 refine wrt [.p 0] ?_
 refine pa ?_;simp only [nf]
 refine plan_nil hH ?_
 clear hH
 intro w14 hH
 refine hK13 _ _ ?_
 (try clear hK13 K13)
 refine wp_seq_k ?_
 intro K15 hK15
 refine wp_seq_k ?_
 intro K16 hK16
 refine wrt [.p 0] ?_
 refine pka 1 ?_;simp only [nf]
 refine plan_nil hH ?_
 clear hH
 intro w17 hH
 refine hK16 _ _ ?_
 (try clear hK16 K16)
 refine wp_block ?_
 refine wp_loopT [5, 6] [7, 8, 9, 10, 23, 24, 25, 26, 27, 28, 29, 30, 31, 32, 33, 34, 35, 36, 37, 38, 39, 40, 41, 42, 43, 44, 45, 46, 47, 48, 49, 50, 51, 52, 53, 54, 55, 56, 57, 58, 59, 60, 61, 62, 63, 64, 65, 66, 67, 68, 69, 70, 71, 72, 73, 74, 75, 76, 77] (fun (n18 : Nat) (vs : List Value) (w' : World) => ∃ (k : Nat), vs = [V8 (conN k), I64 ((k + 1 : Nat))] ∧ Hp [] w w' [(some b7, 109, arr8 176 fun n => if n < 16 * (k + 1) then kexp (fun i => l.getD i 0) n else 0)] ∧ n18 = 10 - k ∧ k ≤ 10) (10 - 0) (by kernel_rfl) ?_ ?_
 ·
  simp only [ga]
  refine ⟨0, rfl, ?_, rfl, ?_⟩
  ·
   refine hH.say 0 rfl (arr8_congr fun i hi => ?_)
   by_cases h : i < 16
   · rw [if_pos (by omega), if_pos (by omega), kexp_lo _ h]; rfl
   · rw [if_neg (by omega), if_neg (by omega)]
  · first | omega | (omega)
 clear hH
 intro n18 vs19 w20 hR21 d0
 obtain ⟨k, rfl, hH, hn22, hf23⟩ := hR21
 simp only [putAll, putD, List.set_cons_zero, List.set_cons_succ, Nat.zero_add, Nat.reduceAdd]
 refine wp_seq_k ?_
 intro K24 hK24
 refine wp_seq_k ?_
 intro K25 hK25
 refine wrt [.p 0, .p 1] ?_
 refine pm ?_;simp only [nf]
 refine pp rfl rfl (pr_bin rfl rfl (by first | exact bin_leq_n (n := 10)  | exact bin_leq_i)) ?_;simp only [nf]
 refine plan_nil hH ?_
 clear hH
 intro w26 hH
 refine hK25 _ _ ?_
 (try clear hK25 K25)
 refine wp_cond_split rfl (fun hc27 => ?_) (fun hc27 => ?_)
 ·
  (try simp only [cnd] at hc27)
  refine wp_skip ?_
  refine hK24 _ _ ?_
  (try clear hK24 K24)
  refine wp_seq_k ?_
  intro K28 hK28
  refine wp_block ?_
  refine wp_seq_k ?_
  intro K29 hK29
  refine wrp [.p 0, .p 1, .p 2, .p 3, .p 4, .p 5, .p 6, .p 7, .p 8, .p 9, .p 10, .p 11, .p 12] ?_
  refine pm (pm ?_);simp only [nf]
  refine pp rfl rfl (pr_bin rfl rfl (by first | exact bin_sub_n (n := 1) (by omega) (by omega) | exact bin_sub_i (by omega) (by omega))) ?_;simp only [nf]
  refine pp rfl rfl (pr_nilCheck rfl) ?_;simp only [nf]
  refine pp rfl rfl (pr_fieldAddr 0 rfl Tryd.underlying109 rfl rfl sz107) ?_;simp only [nf]
  refine pp rfl rfl (pr_idxA rfl rfl Tryd.underlying107 sz87 (by omega)) ?_;simp only [nf]
  refine pm (pm ?_);simp only [nf]
  refine pp rfl rfl (pr_nilCheck rfl) ?_;simp only [nf]
  refine pp rfl rfl (pr_fieldAddr 0 rfl Tryd.underlying109 rfl rfl sz107) ?_;simp only [nf]
  refine pp rfl rfl (pr_idxA rfl rfl Tryd.underlying107 sz87 (by omega)) ?_;simp only [nf]
  refine pa (pa ?_);simp only [nf]
  refine plan_nil hH ?_
  clear hH
  intro w30 hH
  refine hK29 _ _ ?_
  (try clear hK29 K29)
  refine wp_seq_k ?_
  intro K31 hK31
  refine wp_seq_k ?_
  intro K32 hK32
  refine wrt [.p 0] ?_
  refine pk 0 ?_;simp only [nf]
  refine plan_nil hH ?_
  clear hH
  intro w33 hH
  refine hK32 _ _ ?_
  (try clear hK32 K32)
  refine wp_block ?_
  refine wp_loopT [38] [9, 10, 39, 40, 41, 42, 43, 44, 45, 46, 47, 48, 49, 50, 51, 52, 53, 54, 55, 56, 57, 58, 59, 60, 61, 62, 63, 64, 65, 66, 67, 68, 69, 70, 71, 72, 73, 74, 75] (fun (n34 : Nat) (vs : List Value) (w' : World) => ∃ (j : Nat), vs = [I64 (j : Nat)] ∧ Hp [] w w' [(some b7, 109, arr8 176 fun n => if n < 16 * (k + 1) + j then kexp (fun i => l.getD i 0) n else 0)] ∧ n34 = 16 - j ∧ j ≤ 16) (16 - 0) (by kernel_rfl) ?_ ?_
  ·
   simp only [ga]
   refine ⟨0, rfl, ?_, rfl, ?_⟩
   ·
    exact hH
   · first | omega | (omega)
  clear hH
  intro n34 vs35 w36 hR37 d1
  obtain ⟨j, rfl, hH, hn38, hf39⟩ := hR37
  simp only [putAll, putD, List.set_cons_zero, List.set_cons_succ, Nat.zero_add, Nat.reduceAdd]
  refine wp_seq_k ?_
  intro K40 hK40
  refine wrt [.p 0] ?_
  refine pp rfl rfl (pr_bin rfl rfl (by first | exact bin_lss_n (n := 16)  | exact bin_lss_i)) ?_;simp only [nf]
  refine plan_nil hH ?_
  clear hH
  intro w41 hH
  refine hK40 _ _ ?_
  (try clear hK40 K40)
  refine wp_seq_k ?_
  intro K42 hK42
  refine wp_cond_split rfl (fun hc43 => ?_) (fun hc43 => ?_)
  ·
   (try simp only [cnd] at hc43)
   refine wp_skip ?_
   refine hK42 _ _ ?_
   (try clear hK42 K42)
   refine wp_seq_k ?_
   intro K44 hK44
   refine wp_block ?_
   refine wp_seq_k ?_
   intro K45 hK45
   refine wrt [.p 0, .p 1] ?_
   refine pm (pa ?_);simp only [nf]
   refine plan_nil hH ?_
   clear hH
   intro w46 hH
   refine hK45 _ _ ?_
   (try clear hK45 K45)
   refine wp_seq_k ?_
   intro K47 hK47
   refine wrt [.p 0] ?_
   refine pa ?_;simp only [nf]
   refine plan_nil hH ?_
   clear hH
   intro w48 hH
   refine hK47 _ _ ?_
   (try clear hK47 K47)
   refine wp_seq_k ?_
   intro K49 hK49
   refine wp_seq_k ?_
   intro K50 hK50
   refine wrt [.p 0, .p 1] ?_
   refine pm ?_;simp only [nf]
   refine pp rfl rfl (pr_bin rfl rfl (by first | exact bin_lss_n (n := 4)  | exact bin_lss_i)) ?_;simp only [nf]
   refine plan_nil hH ?_
   clear hH
   intro w51 hH
   refine hK50 _ _ ?_
   (try clear hK50 K50)
   refine wp_cond_split rfl (fun hc52 => ?_) (fun hc52 => ?_)
   ·
    (try simp only [cnd] at hc52)
    refine wp_seq_k ?_
    intro K53 hK53
    refine wrp [.p 1, .p 2, .p 3, .p 4, .p 5, .p 6, .p 7, .q 0, .q 8, .p 9, .p 10] ?_
    refine pm (pm ?_);simp only [nf]
    refine pp rfl rfl (pr_bin rfl rfl (by first | exact bin_add_n (n := 1) (by omega) | exact bin_add_i (by omega) (by omega))) ?_;simp only [nf]
    refine pp rfl rfl (pr_bin rfl rfl (by first | exact bin_rem_n (n := 4) (by omega))) ?_;simp only [nf]
    refine pp rfl rfl (pr_bin rfl rfl (by first | exact bin_add_n (m := 12) (by omega) | exact bin_add_i (by omega) (by omega))) ?_;simp only [nf]
    refine pp rfl rfl (pr_nilCheck rfl) ?_;simp only [nf]
    refine pp rfl rfl (pr_idxA1 rfl rfl Tryd.underlying87 sz5 (by omega)) ?_;simp only [nf]
    refine pq rfl rfl (qr_call cf60 (fun w' hw => sub_calls w') rfl) ?_;simp only [nf]
    refine pq rfl rfl (qr_load1 rfl Tryd.underlying5 rfl ((hH.blk 0 rfl).cell (arr8_get (by omega)))) ?_;simp only [nf]
    refine pp rfl rfl (pr_index_arr rfl rfl Tryd.underlying99 sz5 (notAgg Tryd.underlying5 rfl) (by first | omega | exact lt_u8 _) (arr8_get (by first | omega | exact lt_u8 _))) ?_;simp only [nf]
    refine pa ?_;simp only [nf]
    refine plan_nil hH ?_
    clear hH
    intro w54 hH
    refine hK53 _ _ ?_
    (try clear hK53 K53)
    refine wp_seq_k ?_
    intro K55 hK55
    refine wrt [.p 0, .p 1] ?_
    refine pm ?_;simp only [nf]
    refine pp rfl rfl (pr_bin rfl rfl (by first | exact bin_eql_n (n := 0)  | exact bin_eql_i)) ?_;simp only [nf]
    refine plan_nil hH ?_
    clear hH
    intro w56 hH
    refine hK55 _ _ ?_
    (try clear hK55 K55)
    refine wp_cond_split rfl (fun hc57 => ?_) (fun hc57 => ?_)
    ·
     (try simp only [cnd] at hc57)
     refine wrt [.p 0, .p 1, .p 2, .p 3] ?_
     refine pm (pm ?_);simp only [nf]
     refine pp rfl rfl (pr_bin rfl rfl (bin_xor_u8 _ _)) ?_;simp only [nf]
     refine pa ?_;simp only [nf]
     refine plan_nil hH ?_
     clear hH
     intro w58 hH
     refine hK49 _ _ ?_
     (try clear hK49 K49)
     refine wrp [.p 0, .p 1, .p 2, .p 3, .p 4, .p 5, .p 7, .p 9, .q 6, .p 8, .p 10, .e 11] ?_
     refine pm (pm (pm (pm ?_)));simp only [nf]
     refine pp rfl rfl (pr_nilCheck rfl) ?_;simp only [nf]
     refine pp rfl rfl (pr_idxA1 rfl rfl Tryd.underlying87 sz5 (by omega)) ?_;simp only [nf]
     refine pm ?_;simp only [nf]
     refine pp rfl rfl (pr_nilCheck rfl) ?_;simp only [nf]
     refine pq rfl rfl (qr_load1 rfl Tryd.underlying5 rfl ((hH.blk 0 rfl).cell (arr8_get (by omega)))) ?_;simp only [nf]
     refine pp rfl rfl (pr_bin rfl rfl (bin_xor_u8 _ _)) ?_;simp only [nf]
     refine pp rfl rfl (pr_idxA1 rfl rfl Tryd.underlying87 sz5 (by omega)) ?_;simp only [nf]
     refine plan_store1 0 rfl rfl hH rfl rfl rfl rfl sz5 (by simp <;> omega) ?_
     clear hH
     intro w59 hH
     (try simp only [nf, nh, Value.cells] at hH ⊢)
     refine plan_nil hH ?_
     clear hH
     intro w60 hH
     refine hK44 _ _ ?_
     (try clear hK44 K44)
     refine wrt [.p 0, .p 1] ?_
     refine pp rfl rfl (pr_bin rfl rfl (by first | exact bin_add_n (n := 1) (by omega) | exact bin_add_i (by omega) (by omega))) ?_;simp only [nf]
     refine pm ?_;simp only [nf]
     refine plan_nil hH ?_
     clear hH
     intro w61 hH
     (try simp only [Exit.then, Exit.inBlock, ↓reduceIte, Nat.reduceEqDiff])
     refine ⟨16 - (j + 1), ?_, _, rfl, by kernel_rfl, ?_⟩
     · first | omega | (omega)
     simp only [ga]
     refine ⟨j + 1, rfl, ?_, rfl, ?_⟩
     ·
      exact hH.say 0 rfl (arr8_congr fun i hi => upd_cut (by omega) (by omega) (kstep_0 _ _ _ (by omega)) i)
     · first | omega | (omega)
    ·
     (try simp only [cnd] at hc57)
     refine wp_skip ?_
     refine hK49 _ _ ?_
     (try clear hK49 K49)
     refine wrp [.p 0, .p 1, .p 2, .p 3, .p 4, .p 5, .p 7, .p 9, .q 6, .p 8, .p 10, .e 11] ?_
     refine pm (pm (pm (pm ?_)));simp only [nf]
     refine pp rfl rfl (pr_nilCheck rfl) ?_;simp only [nf]
     refine pp rfl rfl (pr_idxA1 rfl rfl Tryd.underlying87 sz5 (by omega)) ?_;simp only [nf]
     refine pm ?_;simp only [nf]
     refine pp rfl rfl (pr_nilCheck rfl) ?_;simp only [nf]
     refine pq rfl rfl (qr_load1 rfl Tryd.underlying5 rfl ((hH.blk 0 rfl).cell (arr8_get (by omega)))) ?_;simp only [nf]
     refine pp rfl rfl (pr_bin rfl rfl (bin_xor_u8 _ _)) ?_;simp only [nf]
     refine pp rfl rfl (pr_idxA1 rfl rfl Tryd.underlying87 sz5 (by omega)) ?_;simp only [nf]
     refine plan_store1 0 rfl rfl hH rfl rfl rfl rfl sz5 (by simp <;> omega) ?_
     clear hH
     intro w62 hH
     (try simp only [nf, nh, Value.cells] at hH ⊢)
     refine plan_nil hH ?_
     clear hH
     intro w63 hH
     refine hK44 _ _ ?_
     (try clear hK44 K44)
     refine wrt [.p 0, .p 1] ?_
     refine pp rfl rfl (pr_bin rfl rfl (by first | exact bin_add_n (n := 1) (by omega) | exact bin_add_i (by omega) (by omega))) ?_;simp only [nf]
     refine pm ?_;simp only [nf]
     refine plan_nil hH ?_
     clear hH
     intro w64 hH
     (try simp only [Exit.then, Exit.inBlock, ↓reduceIte, Nat.reduceEqDiff])
     refine ⟨16 - (j + 1), ?_, _, rfl, by kernel_rfl, ?_⟩
     · first | omega | (omega)
     simp only [ga]
     refine ⟨j + 1, rfl, ?_, rfl, ?_⟩
     ·
      exact hH.say 0 rfl (arr8_congr fun i hi => upd_cut (by omega) (by omega) (kstep_a _ _ _ (by omega) (by omega)) i)
     · first | omega | (omega)
   ·
    (try simp only [cnd] at hc52)
    refine wrt [.p 0, .p 1, .p 2, .p 3, .p 4, .q 5, .p 6] ?_
    refine pm (pm ?_);simp only [nf]
    refine pp rfl rfl (pr_bin rfl rfl (by first | exact bin_sub_n (n := 4) (by omega) (by omega) | exact bin_sub_i (by omega) (by omega))) ?_;simp only [nf]
    refine pp rfl rfl (pr_nilCheck rfl) ?_;simp only [nf]
    refine pp rfl rfl (pr_idxA1 rfl rfl Tryd.underlying87 sz5 (by omega)) ?_;simp only [nf]
    refine pq rfl rfl (qr_load1 rfl Tryd.underlying5 rfl ((hH.blk 0 rfl).cell (arr8_get (by omega)))) ?_;simp only [nf]
    refine pa ?_;simp only [nf]
    refine plan_nil hH ?_
    clear hH
    intro w65 hH
    refine hK49 _ _ ?_
    (try clear hK49 K49)
    refine wrp [.p 0, .p 1, .p 2, .p 3, .p 4, .p 5, .p 7, .p 9, .q 6, .p 8, .p 10, .e 11] ?_
    refine pm (pm (pm (pm ?_)));simp only [nf]
    refine pp rfl rfl (pr_nilCheck rfl) ?_;simp only [nf]
    refine pp rfl rfl (pr_idxA1 rfl rfl Tryd.underlying87 sz5 (by omega)) ?_;simp only [nf]
    refine pm ?_;simp only [nf]
    refine pp rfl rfl (pr_nilCheck rfl) ?_;simp only [nf]
    refine pq rfl rfl (qr_load1 rfl Tryd.underlying5 rfl ((hH.blk 0 rfl).cell (arr8_get (by omega)))) ?_;simp only [nf]
    refine pp rfl rfl (pr_bin rfl rfl (bin_xor_u8 _ _)) ?_;simp only [nf]
    refine pp rfl rfl (pr_idxA1 rfl rfl Tryd.underlying87 sz5 (by omega)) ?_;simp only [nf]
    refine plan_store1 0 rfl rfl hH rfl rfl rfl rfl sz5 (by simp <;> omega) ?_
    clear hH
    intro w66 hH
    (try simp only [nf, nh, Value.cells] at hH ⊢)
    refine plan_nil hH ?_
    clear hH
    intro w67 hH
    refine hK44 _ _ ?_
    (try clear hK44 K44)
    refine wrt [.p 0, .p 1] ?_
    refine pp rfl rfl (pr_bin rfl rfl (by first | exact bin_add_n (n := 1) (by omega) | exact bin_add_i (by omega) (by omega))) ?_;simp only [nf]
    refine pm ?_;simp only [nf]
    refine plan_nil hH ?_
    clear hH
    intro w68 hH
    (try simp only [Exit.then, Exit.inBlock, ↓reduceIte, Nat.reduceEqDiff])
    refine ⟨16 - (j + 1), ?_, _, rfl, by kernel_rfl, ?_⟩
    · first | omega | (omega)
    simp only [ga]
    refine ⟨j + 1, rfl, ?_, rfl, ?_⟩
    ·
     exact hH.say 0 rfl (arr8_congr fun i hi => upd_cut (by omega) (by omega) (kstep_b _ _ _ (by omega) (by omega)) i)
    · first | omega | (omega)
  ·
   (try simp only [cnd] at hc43)
   refine wp_exit ?_
   (try simp only [Exit.then, Exit.inBlock, ↓reduceIte, Nat.reduceEqDiff])
   refine hK31 _ _ ?_
   (try clear hK31 K31)
   refine wrt [.p 0, .q 1, .p 2] ?_
   refine pm ?_;simp only [nf]
   refine pq rfl rfl (qr_call cf61 (fun w' hw => double_calls _ w') rfl) ?_;simp only [nf]
   refine pa ?_;simp only [nf]
   refine plan_nil hH ?_
   clear hH
   intro w69 hH
   refine hK28 _ _ ?_
   (try clear hK28 K28)
   refine wrt [.p 0, .p 1, .p 2] ?_
   refine pm ?_;simp only [nf]
   refine pp rfl rfl (pr_bin rfl rfl (by first | exact bin_add_n (n := 1) (by omega) | exact bin_add_i (by omega) (by omega))) ?_;simp only [nf]
   refine pa ?_;simp only [nf]
   refine plan_nil hH ?_
   clear hH
   intro w70 hH
   (try simp only [Exit.then, Exit.inBlock, ↓reduceIte, Nat.reduceEqDiff])
   refine ⟨10 - (k + 1), ?_, _, rfl, by kernel_rfl, ?_⟩
   · first | omega | (omega)
   simp only [ga]
   refine ⟨k + 1, rfl, ?_, rfl, ?_⟩
   ·
    obtain rfl : j = 16 := by omega
    exact hH
   · first | omega | (omega)
 ·
  (try simp only [cnd] at hc27)
  refine wp_exit ?_
  (try simp only [Exit.then, Exit.inBlock, ↓reduceIte, Nat.reduceEqDiff])
  refine hK15 _ _ ?_
  (try clear hK15 K15)
  refine wp_seq_k ?_
  intro K71 hK71
  refine wrt [.p 0, .p 1, .p 2] ?_
  refine pm (pa (pka 0 ?_));simp only [nf]
  refine plan_nil hH ?_
  clear hH
  intro w72 hH
  refine hK71 _ _ ?_
  (try clear hK71 K71)
  refine wp_ret ?_
  (try simp only [Exit.then, Exit.inBlock, ↓reduceIte, Nat.reduceEqDiff])
  refine BP.ret2 rfl rfl rfl ?_
  obtain rfl : k = 10 := by omega
  refine ⟨b7, rfl, hH.chg, (hH.mine 0 rfl).resolve_right (by simp), (hH.say 0 rfl (arr8_congr fun i hi => ?_)).blk 0 rfl⟩
  exact if_pos (by omega)

theorem new_fails (key : Value) (l : List UInt8) (w : World) (hk : Sl w key l) (hl : l.length ≠ 16) :
    Ret Tryd.prog 42 #[key] w fun v w' => v = .tuple #[.pointer none, I64 (1 : Nat)] ∧ Chg [] w w' := by
 refine Ret.enter Tryd.func42 rfl ?_
 simp only [Tryd.ntmps42, fe, Nat.reduceAdd, Nat.reduceSub]
 have hH := Hp.start [] w
 refine wp_seq_k ?_
 intro K1 hK1
 refine wrt [.p 0, .p 1] ?_
 refine pa (pka 0 ?_);simp only [nf]
 refine plan_nil hH ?_
 clear hH
 intro w2 hH
 refine hK1 _ _ ?_
 (try clear hK1 K1)
 refine wp_seq_k ?_
 intro K3 hK3
 refine wp_seq_k ?_
 intro K4 hK4
 refine wrt [.p 0, .p 1, .p 2] ?_
 refine pm ?_;simp only [nf]
 refine pp rfl rfl (pr_len_Sl (hk.chg hH.chg) rfl Tryd.underlying22) ?_;simp only [nf]
 refine pp rfl rfl (pr_bin rfl rfl (by first | exact bin_neq_n (n := 16)  | exact bin_neq_i)) ?_;simp only [nf]
 refine plan_nil hH ?_
 clear hH
 intro w5 hH
 refine hK4 _ _ ?_
 (try clear hK4 K4)
 refine wp_cond_true (by show BV _ = _; rw [bne_iff_ne.mpr hl]) ?_
 refine wp_seq_k ?_
 intro K6 hK6
 refine wrt [.p 0, .p 1] ?_
 refine pa (pka 1 ?_);simp only [nf]
 refine plan_nil hH ?_
 clear hH
 intro w7 hH
 refine hK6 _ _ ?_
 (try clear hK6 K6)
 refine wp_ret ?_
 (try simp only [Exit.then, Exit.inBlock, ↓reduceIte, Nat.reduceEqDiff])
 refine BP.ret2 rfl rfl rfl ?_
 exact ⟨rfl, hH.chg⟩

theorem block_calls (bc : Nat) (kf : Nat → UInt8) (b : Value) (l : List UInt8) (w : World) (hc : Blk w bc 109 (arr8 176 kf)) (hb : Sl w b l) (hl : l.length = 16) :
    Ret Tryd.prog 43 #[PT bc 0, b] w fun v w' => ∃ nb, v = .tuple #[.slice (some ⟨nb, 0, none⟩) 16 16, I64 (0 : Nat)] ∧ Chg [] w w' ∧ w.heap.size ≤ nb ∧ Blk w' nb 87 (arr8 16 (aesR kf (fun i => l.getD i 0) 10)) := by
 refine Ret.enter Tryd.func43 rfl ?_
 simp only [Tryd.ntmps43, fe, Nat.reduceAdd, Nat.reduceSub]
 have hH := Hp.start [] w
 refine wp_seq_k ?_
 intro K1 hK1
 refine wrt [.p 0, .p 1] ?_
 refine pa (pka 0 ?_);simp only [nf]
 refine plan_nil hH ?_
 clear hH
 intro w2 hH
 refine hK1 _ _ ?_
 (try clear hK1 K1)
 refine wp_seq_k ?_
 intro K3 hK3
 refine wp_seq_k ?_
 intro K4 hK4
 refine wrt [.p 0, .p 1, .p 2, .p 3, .p 4, .p 5, .p 6] ?_
 refine pm ?_;simp only [nf]
 refine pp rfl rfl (pr_bin rfl rfl (bin_eql_pn Tryd.underlying80)) ?_;simp only [nf]
 refine plan_p (v := BV false) rfl rfl (pr_move_v rfl) ?_
 (try simp only [nf])
 refine pp rfl rfl pr_move ?_;simp only [nf]
 refine pp rfl rfl (pr_len_Sl (hb.chg hH.chg) rfl Tryd.underlying22) ?_;simp only [nf]
 refine pp rfl rfl (pr_bin rfl rfl (by first | exact bin_neq_n (n := 16)  | exact bin_neq_i)) ?_;simp only [nf]
 refine pp rfl rfl (pr_pick_f rfl) ?_;simp only [nf]
 refine plan_nil hH ?_
 clear hH
 intro w5 hH
 refine hK4 _ _ ?_
 (try clear hK4 K4)
 refine wp_cond_false (by show BV _ = _; rw [hl]; rfl) ?_
 refine wp_skip ?_
 refine hK3 _ _ ?_
 (try clear hK3 K3)
 refine wp_seq_k ?_
 intro K6 hK6
 refine wrt [.p 0, .p 1, .p 2, .q 3, .q 4, .x 5, .e 6] ?_
 refine pm (pm ?_);simp only [nf]
 refine pp rfl rfl (pr_s2ap_Sl (hb.chg hH.chg) rfl Tryd.underlying87 (by decide) (by omega)) ?_;simp only [nf]
 refine pq rfl rfl (qr_load_Sl (hb.chg hH.chg) rfl Tryd.underlying87 rfl sz87 (by omega)) ?_;simp only [nf]
 refine pq rfl rfl (qr_call cf62 (fun w' hw => turn_calls _ _ _ w' (hw.nil_blk (hH.chg.nil_blk hc))) rfl) ?_;simp only [nf]
 refine plan_alloc rfl rfl hH zc87 ?_
 clear hH
 intro b7 w8 hH
 (try simp only [nf, nh, Value.cells] at hH ⊢)
 refine plan_storeW 0 rfl rfl hH rfl rfl rfl one_arr8 sz87 (by simp) (by simp) ?_
 clear hH
 intro w9 hH
 (try simp only [nf, nh, Value.cells] at hH ⊢)
 refine plan_nil hH ?_
 clear hH
 intro w10 hH
 refine hK6 _ _ ?_
 (try clear hK6 K6)
 refine wp_seq_k ?_
 intro K11 hK11
 refine wrt [.p 0, .p 1, .p 2] ?_
 refine pp rfl rfl (pr_slice_arr_all rfl Tryd.underlying87 sz5) ?_;simp only [nf]
 (try simp only [Nat.mul_one, Nat.zero_add, Nat.add_sub_cancel_left])
 refine pa (pka 0 ?_);simp only [nf]
 refine plan_nil hH ?_
 clear hH
 intro w12 hH
 refine hK11 _ _ ?_
 (try clear hK11 K11)
 refine wp_ret ?_
 (try simp only [Exit.then, Exit.inBlock, ↓reduceIte, Nat.reduceEqDiff])
 refine BP.ret2 rfl rfl rfl ?_
 exact ⟨_, rfl, hH.chg, (hH.mine 0 rfl).resolve_right (by simp), hH.blk 0 rfl⟩

theorem block_fails (bc : Nat) (b : Value) (l : List UInt8) (w : World) (hb : Sl w b l) (hl : l.length ≠ 16) :
    Ret Tryd.prog 43 #[PT bc 0, b] w fun v w' => v = .tuple #[.slice none 0 0, I64 (1 : Nat)] ∧ Chg [] w w' := by
 refine Ret.enter Tryd.func43 rfl ?_
 simp only [Tryd.ntmps43, fe, Nat.reduceAdd, Nat.reduceSub]
 have hH := Hp.start [] w
 refine wp_seq_k ?_
 intro K1 hK1
 refine wrt [.p 0, .p 1] ?_
 refine pa (pka 0 ?_);simp only [nf]
 refine plan_nil hH ?_
 clear hH
 intro w2 hH
 refine hK1 _ _ ?_
 (try clear hK1 K1)
 refine wp_seq_k ?_
 intro K3 hK3
 refine wp_seq_k ?_
 intro K4 hK4
 refine wrt [.p 0, .p 1, .p 2, .p 3, .p 4, .p 5, .p 6] ?_
 refine pm ?_;simp only [nf]
 refine pp rfl rfl (pr_bin rfl rfl (bin_eql_pn Tryd.underlying80)) ?_;simp only [nf]
 refine plan_p (v := BV false) rfl rfl (pr_move_v rfl) ?_
 (try simp only [nf])
 refine pp rfl rfl pr_move ?_;simp only [nf]
 refine pp rfl rfl (pr_len_Sl (hb.chg hH.chg) rfl Tryd.underlying22) ?_;simp only [nf]
 refine pp rfl rfl (pr_bin rfl rfl (by first | exact bin_neq_n (n := 16)  | exact bin_neq_i)) ?_;simp only [nf]
 refine pp rfl rfl (pr_pick_f rfl) ?_;simp only [nf]
 refine plan_nil hH ?_
 clear hH
 intro w5 hH
 refine hK4 _ _ ?_
 (try clear hK4 K4)
 refine wp_cond_true (by show BV _ = _; rw [bne_iff_ne.mpr hl]) ?_
 refine wp_seq_k ?_
 intro K6 hK6
 refine wrt [.p 0, .p 1] ?_
 refine pa (pka 1 ?_);simp only [nf]
 refine plan_nil hH ?_
 clear hH
 intro w7 hH
 refine hK6 _ _ ?_
 (try clear hK6 K6)
 refine wp_ret ?_
 (try simp only [Exit.then, Exit.inBlock, ↓reduceIte, Nat.reduceEqDiff])
 refine BP.ret2 rfl rfl rfl ?_
 exact ⟨rfl, hH.chg⟩

theorem block_nil (b : Value) (w : World) :
    Ret Tryd.prog 43 #[.pointer none, b] w fun v w' => v = .tuple #[.slice none 0 0, I64 (1 : Nat)] ∧ Chg [] w w' := by
 refine Ret.enter Tryd.func43 rfl ?_
 simp only [Tryd.ntmps43, fe, Nat.reduceAdd, Nat.reduceSub]
 have hH := Hp.start [] w
 refine wp_seq_k ?_
 intro K1 hK1
 refine wrt [.p 0, .p 1] ?_
 refine pa (pka 0 ?_);simp only [nf]
 refine plan_nil hH ?_
 clear hH
 intro w2 hH
 refine hK1 _ _ ?_
 (try clear hK1 K1)
 refine wp_seq_k ?_
 intro K3 hK3
 refine wp_seq_k ?_
 intro K4 hK4
 refine wrt [.p 0, .p 1, .p 2, .p 3, .p 4, .p 5, .p 6] ?_
 refine pm ?_;simp only [nf]
 refine pp rfl rfl (pr_bin rfl rfl (bin_eql_pn Tryd.underlying80)) ?_;simp only [nf]
 refine plan_p (v := BV true) rfl rfl (pr_move_v rfl) ?_
 (try simp only [nf])
 refine plan_ps rfl rfl ?_
 (try simp only [nf])
 refine plan_ps rfl rfl ?_
 (try simp only [nf])
 refine plan_ps rfl rfl ?_
 (try simp only [nf])
 refine pp rfl rfl (pr_pick_t rfl) ?_;simp only [nf]
 refine plan_nil hH ?_
 clear hH
 intro w5 hH
 refine hK4 _ _ ?_
 (try clear hK4 K4)
 refine wp_cond_true rfl ?_
 refine wp_seq_k ?_
 intro K6 hK6
 refine wrt [.p 0, .p 1] ?_
 refine pa (pka 1 ?_);simp only [nf]
 refine plan_nil hH ?_
 clear hH
 intro w7 hH
 refine hK6 _ _ ?_
 (try clear hK6 K6)
 refine wp_ret ?_
 (try simp only [Exit.then, Exit.inBlock, ↓reduceIte, Nat.reduceEqDiff])
 refine BP.ret2 rfl rfl rfl ?_
 exact ⟨rfl, hH.chg⟩

end Go.Proofs.YtmoaddicejohgaaDoor
