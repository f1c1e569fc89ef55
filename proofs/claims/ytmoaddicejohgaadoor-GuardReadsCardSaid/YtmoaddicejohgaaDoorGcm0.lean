/- Walks of gcm: word, bytes, of, times, Times, take, counter, Same, for all arguments. No further conditions. -/
import Derived.Test.YtmoaddicejohgaaDoorBuilds
import Derived.Test.YtmoaddicejohgaaDoorAesK
set_option linter.unusedSimpArgs false
set_option linter.unusedVariables false
set_option maxRecDepth 100000
set_option maxHeartbeats 4000000
namespace Go.Proofs.YtmoaddicejohgaaDoor
open Go
open List (getD_cons_zero getD_cons_succ set_cons_zero set_cons_succ)

abbrev P2 := UInt64 × UInt64
abbrev PV (p : P2) : Value := .agg #[V64 p.1, V64 p.2]
/-- Eight bytes as a word. -/
def wordF (f : Nat → UInt8) : Nat → UInt64
  | 0 => 0
  | n + 1 => wordF f n <<< 8 ||| (f n).toUInt64
/-- A block as two words. -/
def ofP (f : Nat → UInt8) : P2 := (wordF f 8, wordF (fun i => f (8 + i)) 8)
/-- A word's byte. -/
def byteW (x : UInt64) (i : Nat) : UInt8 := (if 56 - 8 * i < 64 then x >>> UInt64.ofNat (56 - 8 * i) else 0).toUInt8
def nbP (p : P2) (j : Nat) : UInt8 := if j < 8 then byteW p.1 j else byteW p.2 (j - 8)
/-- A product, step by step. -/
def mskW (a : P2) (i : Nat) : UInt64 := -((if 63 - i % 64 < 64 then (if 64 ≤ i then a.2 else a.1) >>> UInt64.ofNat (63 - i % 64) else 0) &&& 1)
def bW (b : P2) : Nat → P2
  | 0 => b
  | n + 1 => ((bW b n).1 >>> 1 ^^^ (-((bW b n).2 &&& 1)) &&& 16212958658533785600, (bW b n).2 >>> 1 ||| (bW b n).1 <<< 63)
def zW (a b : P2) : Nat → P2
  | 0 => (0, 0)
  | n + 1 => ((zW a b n).1 ^^^ (bW b n).1 &&& mskW a n, (zW a b n).2 ^^^ (bW b n).2 &&& mskW a n)
def mulP (a b : P2) : P2 := zW a b 128
def blkP (l : List UInt8) (n : Nat) : P2 := ofP fun i => l.getD (16 * n + i) 0
/-- A register behind n blocks. -/
def takeP (h r : P2) (l : List UInt8) : Nat → P2
  | 0 => r
  | n + 1 => mulP ((takeP h r l n).1 ^^^ (blkP l n).1, (takeP h r l n).2 ^^^ (blkP l n).2) h
def blocks (l : List UInt8) : Nat := (l.length + 15) / 16
theorem wordF_list (l : List UInt8) (h : 8 ≤ l.length) : wordF (fun i => (l.take 8).getD i 0) 8 = wordF (fun i => l.getD i 0) 8 := by
  simp only [wordF]
  rw [take_getD l (by omega), take_getD l (by omega), take_getD l (by omega), take_getD l (by omega), take_getD l (by omega), take_getD l (by omega), take_getD l (by omega), take_getD l (by omega)]
theorem nb_step (p : P2) (i j : Nat) (hi : i < 8) (hj : j < 16) :
    upd (upd (fun j => if j < i ∨ 8 ≤ j ∧ j < 8 + i then nbP p j else 0) i (byteW p.1 i)) (8 + i) (byteW p.2 i) j = if j < i + 1 ∨ 8 ≤ j ∧ j < 8 + (i + 1) then nbP p j else 0 := by
  simp only [upd]
  by_cases h1 : j = 8 + i
  · subst h1
    rw [if_pos rfl, if_pos (by omega)]
    unfold nbP
    rw [if_neg (by omega), Nat.add_sub_cancel_left]
  · rw [if_neg h1]
    by_cases h2 : j = i
    · subst h2
      rw [if_pos rfl, if_pos (by omega)]
      unfold nbP
      rw [if_pos hi]
    · rw [if_neg h2]
      by_cases h3 : j < i ∨ 8 ≤ j ∧ j < 8 + i
      · rw [if_pos h3, if_pos (by omega)]
      · rw [if_neg h3, if_neg (by omega)]

theorem word_calls (v : Value) (l : List UInt8) (w : World) (hv : Sl w v l) (h8 : 8 ≤ l.length) : Ret Tryd.prog 63 #[v] w fun v' w' => v' = V64 (wordF (fun i => l.getD i 0) 8) ∧ Chg [] w w' := by
 refine Ret.enter Tryd.func63 rfl ?_
 simp only [Tryd.ntmps63, fe, Nat.reduceAdd, Nat.reduceSub]
 have hH := Hp.start [] w
 refine wp_seq_k ?_
 intro K1 hK1
 refine wrt [.p 0] ?_
 refine pa ?_;simp only [nf]
 refine plan_nil hH ?_
 clear hH
 intro w2 hH
 refine hK1 _ _ ?_
 (try clear hK1 K1)
 refine wp_seq_k ?_
 intro K3 hK3
 refine wrt [.p 0] ?_
 refine pa ?_;simp only [nf]
 refine plan_nil hH ?_
 clear hH
 intro w4 hH
 refine hK3 _ _ ?_
 (try clear hK3 K3)
 refine wp_seq_k ?_
 intro K5 hK5
 refine wp_seq_k ?_
 intro K6 hK6
 refine wrt [.p 0, .p 1, .p 2, .p 3] ?_
 refine pm ?_;simp only [nf]
 refine pp rfl rfl (pr_slice_Sl_h (hi := 8) (hv.chg hH.chg) rfl rfl Tryd.underlying22 sz5 (by first | omega | (simp <;> omega))) ?_;simp only [nf]
 refine pp rfl rfl (pr_len_Sl (Sl.cuth (hv.chg hH.chg) (by first | omega | (simp <;> omega))) rfl Tryd.underlying22) ?_;simp only [nf]
 refine pk 0 ?_;simp only [nf]
 refine plan_nil hH ?_
 clear hH
 intro w7 hH
 refine hK6 _ _ ?_
 (try clear hK6 K6)
 refine wp_block ?_
 refine wp_loopT [3, 9] [5, 10, 11, 12, 13, 14, 15, 16, 17, 18] (fun (n8 : Nat) (vs : List Value) (w' : World) => ∃ (i : Nat), vs = [V64 (wordF (fun i => (l.take 8).getD i 0) i), I64 (i : Nat)] ∧ Hp [] w w' [] ∧ n8 = 8 - i ∧ i ≤ 8) (8 - 0) (by kernel_rfl) ?_ ?_
 ·
  simp only [ga]
  refine ⟨0, rfl, ?_, rfl, ?_⟩
  ·
   exact hH
  · first | omega | (omega)
 clear hH
 intro n8 vs9 w10 hR11 d0
 obtain ⟨i, rfl, hH, hn12, hf13⟩ := hR11
 simp only [putAll, putD, List.set_cons_zero, List.set_cons_succ, Nat.zero_add, Nat.reduceAdd]
 refine wp_seq_k ?_
 intro K14 hK14
 refine wrt [.p 0] ?_
 refine pp rfl rfl (pr_bin rfl rfl (by first | exact bin_lss_n  | exact bin_lss_i)) ?_;simp only [nf]
 refine plan_nil hH ?_
 clear hH
 intro w15 hH
 refine hK14 _ _ ?_
 (try clear hK14 K14)
 refine wp_seq_k ?_
 intro K16 hK16
 refine wp_cond_split rfl (fun hc17 => ?_) (fun hc17 => ?_)
 ·
  (try simp only [cnd] at hc17)
  simp only [List.length_take] at hc17
  refine wp_skip ?_
  refine hK16 _ _ ?_
  (try clear hK16 K16)
  refine wp_seq_k ?_
  intro K18 hK18
  refine wp_block ?_
  refine wp_seq_k ?_
  intro K19 hK19
  refine wrt [.p 0, .q 1, .p 2] ?_
  refine pp rfl rfl (pr_idx_Sl (Sl.cuth (hv.chg hH.chg) (by omega)) rfl rfl Tryd.underlying22 sz5 (by first | omega | (simp <;> omega))) ?_;simp only [nf]
  refine pq rfl rfl (qr_load1 rfl Tryd.underlying5 rfl (Sl.cell (Sl.cuth (hv.chg hH.chg) (by omega)) (by first | omega | (simp <;> omega)))) ?_;simp only [nf]
  refine pa ?_;simp only [nf]
  refine plan_nil hH ?_
  clear hH
  intro w20 hH
  refine hK19 _ _ ?_
  (try clear hK19 K19)
  refine wrt [.p 0, .p 1, .p 2, .p 3, .p 4, .p 5] ?_
  refine pm ?_;simp only [nf]
  refine pp rfl rfl (pr_bin rfl rfl (bin_shlc_u64 8 8 (by decide) rfl _)) ?_;simp only [nf]
  refine pm ?_;simp only [nf]
  refine pp rfl rfl (pr_conv rfl (cnv_u8_u64 _ Tryd.underlying5 Tryd.underlying49)) ?_;simp only [nf]
  refine pp rfl rfl (pr_bin rfl rfl (bin_or_u64 _ _)) ?_;simp only [nf]
  refine pa ?_;simp only [nf]
  refine plan_nil hH ?_
  clear hH
  intro w21 hH
  refine hK18 _ _ ?_
  (try clear hK18 K18)
  refine wrt [.p 0, .p 1] ?_
  refine pp rfl rfl (pr_bin rfl rfl (by first | exact bin_add_n (n := 1) (by first | omega | (simp <;> omega)) | exact bin_add_i (by first | omega | (simp <;> omega)) (by first | omega | (simp <;> omega)))) ?_;simp only [nf]
  refine pm ?_;simp only [nf]
  refine plan_nil hH ?_
  clear hH
  intro w22 hH
  (try simp only [Exit.then, Exit.inBlock, ↓reduceIte, Nat.reduceEqDiff])
  refine ⟨8 - (i + 1), ?_, _, rfl, by kernel_rfl, ?_⟩
  · first | omega | (omega)
  simp only [ga]
  refine ⟨i + 1, rfl, ?_, rfl, ?_⟩
  ·
   exact hH
  · first | omega | (omega)
 ·
  (try simp only [cnd] at hc17)
  simp only [List.length_take] at hc17
  refine wp_exit ?_
  (try simp only [Exit.then, Exit.inBlock, ↓reduceIte, Nat.reduceEqDiff])
  refine hK5 _ _ ?_
  (try clear hK5 K5)
  refine wp_seq_k ?_
  intro K23 hK23
  refine wrt [.p 0, .p 1] ?_
  refine pm (pa ?_);simp only [nf]
  refine plan_nil hH ?_
  clear hH
  intro w24 hH
  refine hK23 _ _ ?_
  (try clear hK23 K23)
  refine wp_ret ?_
  (try simp only [Exit.then, Exit.inBlock, ↓reduceIte, Nat.reduceEqDiff])
  refine BP.ret1 rfl rfl ?_
  obtain rfl : i = 8 := by omega
  exact ⟨congrArg V64 (wordF_list l h8), hH.chg⟩

theorem bytes_calls (p : P2) (w : World) : Ret Tryd.prog 66 #[PV p] w fun v w' => v = .agg (arr8 16 (nbP p)) ∧ Chg [] w w' := by
 refine Ret.enter Tryd.func66 rfl ?_
 simp only [Tryd.ntmps66, fe, Nat.reduceAdd, Nat.reduceSub]
 have hH := Hp.start [] w
 refine wp_seq_k ?_
 intro K1 hK1
 refine wrt [.x 0, .x 1] ?_
 refine plan_box rfl rfl hH rfl ?_
 clear hH
 intro b2 w3 hH
 (try simp only [nf, nh, Value.cells, arrB_set] at hH ⊢)
 refine plan_alloc rfl rfl hH zc87 ?_
 clear hH
 intro b4 w5 hH
 (try simp only [nf, nh, Value.cells, arrB_set] at hH ⊢)
 refine plan_nil hH ?_
 clear hH
 intro w6 hH
 refine hK1 _ _ ?_
 (try clear hK1 K1)
 refine wp_seq_k ?_
 intro K7 hK7
 refine wrt [.x 0] ?_
 refine plan_alloc rfl rfl hH zc87 ?_
 clear hH
 intro b8 w9 hH
 (try simp only [nf, nh, Value.cells, arrB_set] at hH ⊢)
 refine plan_nil hH ?_
 clear hH
 intro w10 hH
 refine hK7 _ _ ?_
 (try clear hK7 K7)
 refine wp_seq_k ?_
 intro K11 hK11
 refine wp_seq_k ?_
 intro K12 hK12
 refine wrt [.p 0] ?_
 refine pk 0 ?_;simp only [nf]
 refine plan_nil hH ?_
 clear hH
 intro w13 hH
 refine hK12 _ _ ?_
 (try clear hK12 K12)
 refine wp_block ?_
 refine wp_loopT [5] [4, 6, 7, 8, 9, 10, 11, 12, 13, 14, 15, 16, 17, 18, 19, 20, 21, 22, 23, 24, 25, 26, 27] (fun (n14 : Nat) (vs : List Value) (w' : World) => ∃ (i : Nat), vs = [I64 (i : Nat)] ∧ Hp [] w w' [(some b2, 85, #[V64 p.1, V64 p.2]), (some b4, 87, arr8 16 fun _ => 0), (some b8, 87, arr8 16 fun j => if j < i ∨ 8 ≤ j ∧ j < 8 + i then nbP p j else 0)] ∧ n14 = 8 - i ∧ i ≤ 8) (8 - 0) (by kernel_rfl) ?_ ?_
 ·
  simp only [ga]
  refine ⟨0, rfl, ?_, rfl, ?_⟩
  ·
   exact hH.say 2 rfl (arr8_congr fun j hj => by rw [if_neg (by omega)])
  · first | omega | (omega)
 clear hH
 intro n14 vs15 w16 hR17 d0
 obtain ⟨i, rfl, hH, hn18, hf19⟩ := hR17
 simp only [putAll, putD, List.set_cons_zero, List.set_cons_succ, Nat.zero_add, Nat.reduceAdd]
 refine wp_seq_k ?_
 intro K20 hK20
 refine wrt [.p 0] ?_
 refine pp rfl rfl (pr_bin rfl rfl (by first | exact bin_lss_n (n := 8)  | exact bin_lss_i)) ?_;simp only [nf]
 refine plan_nil hH ?_
 clear hH
 intro w21 hH
 refine hK20 _ _ ?_
 (try clear hK20 K20)
 refine wp_seq_k ?_
 intro K22 hK22
 refine wp_cond_split rfl (fun hc23 => ?_) (fun hc23 => ?_)
 ·
  (try simp only [cnd] at hc23)
  refine wp_skip ?_
  refine hK22 _ _ ?_
  (try clear hK22 K22)
  refine wp_seq_k ?_
  intro K24 hK24
  refine wp_block ?_
  refine wp_seq_k ?_
  intro K25 hK25
  refine wrt [.p 0, .p 1] ?_
  refine pm (pa ?_);simp only [nf]
  refine plan_nil hH ?_
  clear hH
  intro w26 hH
  refine hK25 _ _ ?_
  (try clear hK25 K25)
  refine wp_region_planR (Chg [b8]) (Far.chg _) [.p 0, .p 1, .p 2, .p 3, .p 5, .p 6, .p 7, .p 10, .p 12, .p 13, .p 14, .r 4 (Chg [b8]), .p 8, .p 9, .p 17, .r 11 (Chg [b8]), .p 15, .p 16, .s 18 (Chg [b8]), .p 19, .s 20 (Chg [b8])] (by simp [AllR]) (by kernel_rfl) (by kernel_rfl) (by kernel_rfl) (by kernel_rfl) (fun _ _ _ _ _ h => by first | exact h | exact BP.panic _ _ _ _ _ h) ?_
  refine pm (pm ?_);simp only [nf]
  refine pp rfl rfl (pr_bin rfl rfl (by first | exact bin_add_n (m := 8) (by omega) | exact bin_add_i (by omega) (by omega))) ?_;simp only [nf]
  refine pp rfl rfl (pr_fieldAddr 0 rfl Tryd.underlying85 rfl rfl sz49) ?_;simp only [nf]
  refine pm ?_;simp only [nf]
  refine pp rfl rfl (pr_bin rfl rfl (by first | exact bin_mul_n (m := 8) (by omega) | exact bin_mul_i (by omega) (by omega))) ?_;simp only [nf]
  refine pp rfl rfl (pr_bin rfl rfl (by first | exact bin_sub_n (m := 56) (by omega) (by omega) | exact bin_sub_i (by omega) (by omega))) ?_;simp only [nf]
  refine pp rfl rfl (pr_fieldAddr 1 rfl Tryd.underlying85 rfl rfl sz49) ?_;simp only [nf]
  refine pm ?_;simp only [nf]
  refine pp rfl rfl (pr_bin rfl rfl (by first | exact bin_mul_n (m := 8) (by omega) | exact bin_mul_i (by omega) (by omega))) ?_;simp only [nf]
  refine pp rfl rfl (pr_bin rfl rfl (by first | exact bin_sub_n (m := 56) (by omega) (by omega) | exact bin_sub_i (by omega) (by omega))) ?_;simp only [nf]
  refine plan_r rfl rfl (rr_load1 (fun w' hw => hH.far 0 rfl hw (by simp only [List.mem_cons, List.not_mem_nil, or_false, not_or]; exact hH.other (i := 2) rfl (j := 0) rfl (by decide) rfl)) rfl Tryd.underlying49 rfl rfl) ?_
  (try simp only [nf])
  refine pp rfl rfl (pr_bin rfl rfl (bin_shr_u64 _ _ _)) ?_;simp only [nf]
  refine pp rfl rfl (pr_conv rfl (cnv_u64_u8 _ Tryd.underlying49 Tryd.underlying5)) ?_;simp only [nf]
  refine pp rfl rfl (pr_idxA1 rfl rfl Tryd.underlying87 sz5 (by omega)) ?_;simp only [nf]
  refine plan_r rfl rfl (rr_load1 (fun w' hw => hH.far 0 rfl hw (by simp only [List.mem_cons, List.not_mem_nil, or_false, not_or]; exact hH.other (i := 2) rfl (j := 0) rfl (by decide) rfl)) rfl Tryd.underlying49 rfl rfl) ?_
  (try simp only [nf])
  refine pp rfl rfl (pr_bin rfl rfl (bin_shr_u64 _ _ _)) ?_;simp only [nf]
  refine pp rfl rfl (pr_conv rfl (cnv_u64_u8 _ Tryd.underlying49 Tryd.underlying5)) ?_;simp only [nf]
  refine plan_store1s 2 rfl rfl hH rfl rfl rfl rfl sz5 (by simp <;> omega) (by simp) ?_
  clear hH
  intro w27 hH
  (try simp only [nf, nh, Value.cells, arrB_set] at hH ⊢)
  refine pp rfl rfl (pr_idxA1 rfl rfl Tryd.underlying87 sz5 (by omega)) ?_;simp only [nf]
  refine plan_store1s 2 rfl rfl hH rfl rfl rfl rfl sz5 (by simp <;> omega) (by simp) ?_
  clear hH
  intro w28 hH
  (try simp only [nf, nh, Value.cells, arrB_set] at hH ⊢)
  refine plan_nil hH ?_
  clear hH
  intro w29 hH
  refine hK24 _ _ ?_
  (try clear hK24 K24)
  refine wrt [.p 0, .p 1] ?_
  refine pp rfl rfl (pr_bin rfl rfl (by first | exact bin_add_n (n := 1) (by omega) | exact bin_add_i (by omega) (by omega))) ?_;simp only [nf]
  refine pm ?_;simp only [nf]
  refine plan_nil hH ?_
  clear hH
  intro w30 hH
  (try simp only [Exit.then, Exit.inBlock, ↓reduceIte, Nat.reduceEqDiff])
  refine ⟨8 - (i + 1), ?_, _, rfl, by kernel_rfl, ?_⟩
  · first | omega | (omega)
  simp only [ga]
  refine ⟨i + 1, rfl, ?_, rfl, ?_⟩
  ·
   exact hH.say 2 rfl (arr8_congr fun j hj => nb_step p i j (by omega) hj)
  · first | omega | (omega)
 ·
  (try simp only [cnd] at hc23)
  refine wp_exit ?_
  (try simp only [Exit.then, Exit.inBlock, ↓reduceIte, Nat.reduceEqDiff])
  refine hK11 _ _ ?_
  (try clear hK11 K11)
  refine wp_seq_k ?_
  intro K31 hK31
  refine wrt [.q 0, .e 1] ?_
  refine pq rfl rfl (qr_loadW rfl (hH.blk 2 rfl) Tryd.underlying87 rfl sz87 (by simp)) ?_;simp only [nf]
  refine plan_storeW 1 rfl rfl hH rfl rfl rfl one_arr8 sz87 (by simp) (by simp) ?_
  clear hH
  intro w32 hH
  (try simp only [nf, nh, Value.cells, arrB_set] at hH ⊢)
  refine plan_nil hH ?_
  clear hH
  intro w33 hH
  refine hK31 _ _ ?_
  (try clear hK31 K31)
  refine wp_ret ?_
  (try simp only [Exit.then, Exit.inBlock, ↓reduceIte, Nat.reduceEqDiff])
  refine BP.retc rfl rfl (hH.blk 1 rfl) Tryd.underlying87 rfl sz87 (by simp) ?_
  obtain rfl : i = 8 := by omega
  exact ⟨by rw [arr8_congr fun j hj => if_pos (by omega)], hH.chg⟩

theorem of_calls (f : Nat → UInt8) (w : World) : Ret Tryd.prog 44 #[.agg (arr8 16 f)] w fun v w' => v = PV (ofP f) ∧ Chg [] w w' := by
 refine Ret.enter Tryd.func44 rfl ?_
 simp only [Tryd.ntmps44, fe, Nat.reduceAdd, Nat.reduceSub]
 have hH := Hp.start [] w
 refine wp_seq_k ?_
 intro K1 hK1
 refine wrt [.x 0, .x 1] ?_
 refine plan_box rfl rfl hH rfl ?_
 clear hH
 intro b2 w3 hH
 (try simp only [nf, nh, Value.cells, arrB_set] at hH ⊢)
 refine plan_alloc rfl rfl hH zc85 ?_
 clear hH
 intro b4 w5 hH
 (try simp only [nf, nh, Value.cells, arrB_set] at hH ⊢)
 refine plan_nil hH ?_
 clear hH
 intro w6 hH
 refine hK1 _ _ ?_
 (try clear hK1 K1)
 refine wp_seq_k ?_
 intro K7 hK7
 refine wrp [.p 0, .p 2, .q 1, .q 3, .p 4, .e 5] ?_
 refine pp rfl rfl (pr_slice_arr_h (h := 8) rfl rfl Tryd.underlying87 sz5 (by omega)) ?_;simp only [nf]
 (try simp only [Nat.mul_one, Nat.zero_add, Nat.add_sub_cancel_left])
 refine pp rfl rfl (pr_slice_arr_l1 (l := 8) rfl rfl Tryd.underlying87 sz5 (by omega)) ?_;simp only [nf]
 (try simp only [Nat.mul_one, Nat.zero_add, Nat.add_sub_cancel_left])
 refine pq rfl rfl (qr_call cf63 (fun w' hw => word_calls _ _ w' ((Sl.of_arr8 (hH.blk 0 rfl) (by omega) (by omega)).chg hw) (by simp)) rfl) ?_;simp only [nf]
 refine pq rfl rfl (qr_call cf63 (fun w' hw => word_calls _ _ w' ((Sl.of_arr8 (hH.blk 0 rfl) (by omega) (by omega)).chg hw) (by simp)) rfl) ?_;simp only [nf]
 refine pp rfl rfl (pr_build (by rfl) (bd85_0_1 _ _)) ?_;simp only [nf]
 refine plan_storeW 1 rfl rfl hH rfl rfl rfl (by simp [Value.oneCell']) sz85 (by simp) (by simp) ?_
 clear hH
 intro w8 hH
 (try simp only [nf, nh, Value.cells, arrB_set] at hH ⊢)
 refine plan_nil hH ?_
 clear hH
 intro w9 hH
 refine hK7 _ _ ?_
 (try clear hK7 K7)
 refine wp_ret ?_
 (try simp only [Exit.then, Exit.inBlock, ↓reduceIte, Nat.reduceEqDiff])
 refine BP.retc rfl rfl (hH.blk 1 rfl) Tryd.underlying85 rfl sz85 (by simp) ?_
 exact ⟨rfl, hH.chg⟩

theorem gtimes_calls (a b : P2) (w : World) : Ret Tryd.prog 65 #[PV a, PV b] w fun v w' => v = PV (mulP a b) ∧ Chg [] w w' := by
 refine Ret.enter Tryd.func65 rfl ?_
 simp only [Tryd.ntmps65, fe, Nat.reduceAdd, Nat.reduceSub]
 have hH := Hp.start [] w
 refine wp_seq_k ?_
 intro K1 hK1
 refine wrt [.x 0, .x 1, .x 2] ?_
 refine plan_box rfl rfl hH rfl ?_
 clear hH
 intro b2 w3 hH
 (try simp only [nf, nh, Value.cells, arrB_set] at hH ⊢)
 refine plan_box rfl rfl hH rfl ?_
 clear hH
 intro b4 w5 hH
 (try simp only [nf, nh, Value.cells, arrB_set] at hH ⊢)
 refine plan_alloc rfl rfl hH zc85 ?_
 clear hH
 intro b6 w7 hH
 (try simp only [nf, nh, Value.cells, arrB_set] at hH ⊢)
 refine plan_nil hH ?_
 clear hH
 intro w8 hH
 refine hK1 _ _ ?_
 (try clear hK1 K1)
 refine wp_seq_k ?_
 intro K9 hK9
 refine wrt [.x 0] ?_
 refine plan_alloc rfl rfl hH zc85 ?_
 clear hH
 intro b10 w11 hH
 (try simp only [nf, nh, Value.cells, arrB_set] at hH ⊢)
 refine plan_nil hH ?_
 clear hH
 intro w12 hH
 refine hK9 _ _ ?_
 (try clear hK9 K9)
 refine wp_seq_k ?_
 intro K13 hK13
 refine wp_seq_k ?_
 intro K14 hK14
 refine wrt [.p 0] ?_
 refine pk 0 ?_;simp only [nf]
 refine plan_nil hH ?_
 clear hH
 intro w15 hH
 refine hK14 _ _ ?_
 (try clear hK14 K14)
 refine wp_block ?_
 refine wp_loopT [10] [6, 7, 8, 9, 11, 12, 13, 14, 15, 16, 17, 18, 19, 20, 21, 22, 23, 24, 25, 26, 27, 28, 29, 30, 31, 32, 33, 34, 35, 36, 37, 38, 39, 40, 41, 42, 43, 44, 45, 46, 47, 48, 49, 50, 51, 52, 53, 54, 55, 56, 57, 58, 59, 60, 61] (fun (n16 : Nat) (vs : List Value) (w' : World) => ∃ (i : Nat), vs = [I64 (i : Nat)] ∧ Hp [] w w' [(some b2, 85, #[V64 a.1, V64 a.2]), (some b4, 85, #[V64 (bW b i).1, V64 (bW b i).2]), (some b6, 85, #[V64 0, V64 0]), (some b10, 85, #[V64 (zW a b i).1, V64 (zW a b i).2])] ∧ n16 = 128 - i ∧ i ≤ 128) (128 - 0) (by kernel_rfl) ?_ ?_
 ·
  simp only [ga]
  refine ⟨0, rfl, ?_, rfl, ?_⟩
  ·
   exact hH
  · first | omega | (omega)
 clear hH
 intro n16 vs17 w18 hR19 d0
 obtain ⟨i, rfl, hH, hn20, hf21⟩ := hR19
 simp only [putAll, putD, List.set_cons_zero, List.set_cons_succ, Nat.zero_add, Nat.reduceAdd]
 refine wp_seq_k ?_
 intro K22 hK22
 refine wrt [.p 0] ?_
 refine pp rfl rfl (pr_bin rfl rfl (by first | exact bin_lss_n (n := 128)  | exact bin_lss_i)) ?_;simp only [nf]
 refine plan_nil hH ?_
 clear hH
 intro w23 hH
 refine hK22 _ _ ?_
 (try clear hK22 K22)
 refine wp_seq_k ?_
 intro K24 hK24
 refine wp_cond_split rfl (fun hc25 => ?_) (fun hc25 => ?_)
 ·
  (try simp only [cnd] at hc25)
  refine wp_skip ?_
  refine hK24 _ _ ?_
  (try clear hK24 K24)
  refine wp_seq_k ?_
  intro K26 hK26
  refine wp_block ?_
  refine wp_seq_k ?_
  intro K27 hK27
  refine wrt [.p 0, .p 1] ?_
  refine pm (pa ?_);simp only [nf]
  refine plan_nil hH ?_
  clear hH
  intro w28 hH
  refine hK27 _ _ ?_
  (try clear hK27 K27)
  refine wp_seq_k ?_
  intro K29 hK29
  refine wrt [.p 0, .q 1, .p 2] ?_
  refine pp rfl rfl (pr_fieldAddr 0 rfl Tryd.underlying85 rfl rfl sz49) ?_;simp only [nf]
  refine pq rfl rfl (qr_load1 rfl Tryd.underlying49 rfl ((hH.blk 0 rfl).cell rfl)) ?_;simp only [nf]
  refine pa ?_;simp only [nf]
  refine plan_nil hH ?_
  clear hH
  intro w30 hH
  refine hK29 _ _ ?_
  (try clear hK29 K29)
  refine wp_seq_k ?_
  intro K31 hK31
  refine wp_seq_k ?_
  intro K32 hK32
  refine wrt [.p 0, .p 1] ?_
  refine pm ?_;simp only [nf]
  refine pp rfl rfl (pr_bin rfl rfl (by first | exact bin_geq_n (n := 64)  | exact bin_geq_i)) ?_;simp only [nf]
  refine plan_nil hH ?_
  clear hH
  intro w33 hH
  refine hK32 _ _ ?_
  (try clear hK32 K32)
  refine wp_cond_split rfl (fun hc34 => ?_) (fun hc34 => ?_)
  ·
   (try simp only [cnd] at hc34)
   refine wrt [.p 0, .q 1, .p 2] ?_
   refine pp rfl rfl (pr_fieldAddr 1 rfl Tryd.underlying85 rfl rfl sz49) ?_;simp only [nf]
   refine pq rfl rfl (qr_load1 rfl Tryd.underlying49 rfl ((hH.blk 0 rfl).cell rfl)) ?_;simp only [nf]
   refine pa ?_;simp only [nf]
   refine plan_nil hH ?_
   clear hH
   intro w35 hH
   refine hK31 _ _ ?_
   (try clear hK31 K31)
   refine wp_seq_k ?_
   intro K36 hK36
   refine wrt [.p 0, .p 1, .p 2, .p 3, .p 4, .p 5, .p 6, .p 7] ?_
   refine pm (pm ?_);simp only [nf]
   refine pp rfl rfl (pr_bin rfl rfl (by first | exact bin_rem_n (n := 64) (by omega))) ?_;simp only [nf]
   refine pp rfl rfl (pr_bin rfl rfl (by first | exact bin_sub_n (m := 63) (by omega) (by omega) | exact bin_sub_i (by omega) (by omega))) ?_;simp only [nf]
   refine pp rfl rfl (pr_bin rfl rfl (bin_shr_u64 _ _ _)) ?_;simp only [nf]
   refine pp rfl rfl (pr_bin rfl rfl (bin_and_u64 _ 1)) ?_;simp only [nf]
   refine pp rfl rfl (pr_neg64 rfl) ?_;simp only [nf]
   refine pa ?_;simp only [nf]
   refine plan_nil hH ?_
   clear hH
   intro w37 hH
   refine hK36 _ _ ?_
   (try clear hK36 K36)
   refine wp_seq_k ?_
   intro K38 hK38
   refine wrt [.p 0, .q 1, .p 2, .q 3, .p 4, .p 5, .p 6, .p 7, .e 8] ?_
   refine pp rfl rfl (pr_fieldAddr 0 rfl Tryd.underlying85 rfl rfl sz49) ?_;simp only [nf]
   refine pq rfl rfl (qr_load1 rfl Tryd.underlying49 rfl ((hH.blk 3 rfl).cell rfl)) ?_;simp only [nf]
   refine pp rfl rfl (pr_fieldAddr 0 rfl Tryd.underlying85 rfl rfl sz49) ?_;simp only [nf]
   refine pq rfl rfl (qr_load1 rfl Tryd.underlying49 rfl ((hH.blk 1 rfl).cell rfl)) ?_;simp only [nf]
   refine pm ?_;simp only [nf]
   refine pp rfl rfl (pr_bin rfl rfl (bin_and_u64 _ _)) ?_;simp only [nf]
   refine pp rfl rfl (pr_bin rfl rfl (bin_xor_u64 _ _)) ?_;simp only [nf]
   refine pp rfl rfl (pr_fieldAddr 0 rfl Tryd.underlying85 rfl rfl sz49) ?_;simp only [nf]
   refine plan_store1 3 rfl rfl hH rfl rfl rfl rfl sz49 (by simp <;> omega) ?_
   clear hH
   intro w39 hH
   (try simp only [nf, nh, Value.cells, arrB_set] at hH ⊢)
   refine plan_nil hH ?_
   clear hH
   intro w40 hH
   refine hK38 _ _ ?_
   (try clear hK38 K38)
   refine wp_seq_k ?_
   intro K41 hK41
   refine wrt [.p 0, .q 1, .p 2, .q 3, .p 4, .p 5, .p 6, .p 7, .e 8] ?_
   refine pp rfl rfl (pr_fieldAddr 1 rfl Tryd.underlying85 rfl rfl sz49) ?_;simp only [nf]
   refine pq rfl rfl (qr_load1 rfl Tryd.underlying49 rfl ((hH.blk 3 rfl).cell rfl)) ?_;simp only [nf]
   refine pp rfl rfl (pr_fieldAddr 1 rfl Tryd.underlying85 rfl rfl sz49) ?_;simp only [nf]
   refine pq rfl rfl (qr_load1 rfl Tryd.underlying49 rfl ((hH.blk 1 rfl).cell rfl)) ?_;simp only [nf]
   refine pm ?_;simp only [nf]
   refine pp rfl rfl (pr_bin rfl rfl (bin_and_u64 _ _)) ?_;simp only [nf]
   refine pp rfl rfl (pr_bin rfl rfl (bin_xor_u64 _ _)) ?_;simp only [nf]
   refine pp rfl rfl (pr_fieldAddr 1 rfl Tryd.underlying85 rfl rfl sz49) ?_;simp only [nf]
   refine plan_store1 3 rfl rfl hH rfl rfl rfl rfl sz49 (by simp <;> omega) ?_
   clear hH
   intro w42 hH
   (try simp only [nf, nh, Value.cells, arrB_set] at hH ⊢)
   refine plan_nil hH ?_
   clear hH
   intro w43 hH
   refine hK41 _ _ ?_
   (try clear hK41 K41)
   refine wp_seq_k ?_
   intro K44 hK44
   refine wrt [.p 0, .q 1, .p 2, .p 3, .p 4] ?_
   refine pp rfl rfl (pr_fieldAddr 1 rfl Tryd.underlying85 rfl rfl sz49) ?_;simp only [nf]
   refine pq rfl rfl (qr_load1 rfl Tryd.underlying49 rfl ((hH.blk 1 rfl).cell rfl)) ?_;simp only [nf]
   refine pp rfl rfl (pr_bin rfl rfl (bin_and_u64 _ 1)) ?_;simp only [nf]
   refine pp rfl rfl (pr_neg64 rfl) ?_;simp only [nf]
   refine pa ?_;simp only [nf]
   refine plan_nil hH ?_
   clear hH
   intro w45 hH
   refine hK44 _ _ ?_
   (try clear hK44 K44)
   refine wp_seq_k ?_
   intro K46 hK46
   refine wrt [.p 0, .q 1, .p 2, .p 3, .q 4, .p 5, .p 6, .p 7, .e 8] ?_
   refine pp rfl rfl (pr_fieldAddr 1 rfl Tryd.underlying85 rfl rfl sz49) ?_;simp only [nf]
   refine pq rfl rfl (qr_load1 rfl Tryd.underlying49 rfl ((hH.blk 1 rfl).cell rfl)) ?_;simp only [nf]
   refine pp rfl rfl (pr_bin rfl rfl (bin_shrc_u64 1 1 (by decide) rfl _)) ?_;simp only [nf]
   refine pp rfl rfl (pr_fieldAddr 0 rfl Tryd.underlying85 rfl rfl sz49) ?_;simp only [nf]
   refine pq rfl rfl (qr_load1 rfl Tryd.underlying49 rfl ((hH.blk 1 rfl).cell rfl)) ?_;simp only [nf]
   refine pp rfl rfl (pr_bin rfl rfl (bin_shlc_u64 63 63 (by decide) rfl _)) ?_;simp only [nf]
   refine pp rfl rfl (pr_bin rfl rfl (bin_or_u64 _ _)) ?_;simp only [nf]
   refine pp rfl rfl (pr_fieldAddr 1 rfl Tryd.underlying85 rfl rfl sz49) ?_;simp only [nf]
   refine plan_store1 1 rfl rfl hH rfl rfl rfl rfl sz49 (by simp <;> omega) ?_
   clear hH
   intro w47 hH
   (try simp only [nf, nh, Value.cells, arrB_set] at hH ⊢)
   refine plan_nil hH ?_
   clear hH
   intro w48 hH
   refine hK46 _ _ ?_
   (try clear hK46 K46)
   refine wrt [.p 0, .q 1, .p 2, .p 3, .p 4, .p 5, .p 6, .e 7] ?_
   refine pp rfl rfl (pr_fieldAddr 0 rfl Tryd.underlying85 rfl rfl sz49) ?_;simp only [nf]
   refine pq rfl rfl (qr_load1 rfl Tryd.underlying49 rfl ((hH.blk 1 rfl).cell rfl)) ?_;simp only [nf]
   refine pp rfl rfl (pr_bin rfl rfl (bin_shrc_u64 1 1 (by decide) rfl _)) ?_;simp only [nf]
   refine pm ?_;simp only [nf]
   refine pp rfl rfl (pr_bin rfl rfl (bin_and_u64 _ 16212958658533785600)) ?_;simp only [nf]
   refine pp rfl rfl (pr_bin rfl rfl (bin_xor_u64 _ _)) ?_;simp only [nf]
   refine pp rfl rfl (pr_fieldAddr 0 rfl Tryd.underlying85 rfl rfl sz49) ?_;simp only [nf]
   refine plan_store1 1 rfl rfl hH rfl rfl rfl rfl sz49 (by simp <;> omega) ?_
   clear hH
   intro w49 hH
   (try simp only [nf, nh, Value.cells, arrB_set] at hH ⊢)
   refine plan_nil hH ?_
   clear hH
   intro w50 hH
   refine hK26 _ _ ?_
   (try clear hK26 K26)
   refine wrt [.p 0, .p 1] ?_
   refine pp rfl rfl (pr_bin rfl rfl (by first | exact bin_add_n (n := 1) (by omega) | exact bin_add_i (by omega) (by omega))) ?_;simp only [nf]
   refine pm ?_;simp only [nf]
   refine plan_nil hH ?_
   clear hH
   intro w51 hH
   (try simp only [Exit.then, Exit.inBlock, ↓reduceIte, Nat.reduceEqDiff])
   refine ⟨128 - (i + 1), ?_, _, rfl, by kernel_rfl, ?_⟩
   · first | omega | (omega)
   simp only [ga]
   refine ⟨i + 1, rfl, ?_, rfl, ?_⟩
   ·
    refine hH.cast ?_
    simp only [zW, bW, mskW]
    rw [if_pos (by omega : 64 ≤ i)]
   · first | omega | (omega)
  ·
   (try simp only [cnd] at hc34)
   refine wp_skip ?_
   refine hK31 _ _ ?_
   (try clear hK31 K31)
   refine wp_seq_k ?_
   intro K52 hK52
   refine wrt [.p 0, .p 1, .p 2, .p 3, .p 4, .p 5, .p 6, .p 7] ?_
   refine pm (pm ?_);simp only [nf]
   refine pp rfl rfl (pr_bin rfl rfl (by first | exact bin_rem_n (n := 64) (by omega))) ?_;simp only [nf]
   refine pp rfl rfl (pr_bin rfl rfl (by first | exact bin_sub_n (m := 63) (by omega) (by omega) | exact bin_sub_i (by omega) (by omega))) ?_;simp only [nf]
   refine pp rfl rfl (pr_bin rfl rfl (bin_shr_u64 _ _ _)) ?_;simp only [nf]
   refine pp rfl rfl (pr_bin rfl rfl (bin_and_u64 _ 1)) ?_;simp only [nf]
   refine pp rfl rfl (pr_neg64 rfl) ?_;simp only [nf]
   refine pa ?_;simp only [nf]
   refine plan_nil hH ?_
   clear hH
   intro w53 hH
   refine hK52 _ _ ?_
   (try clear hK52 K52)
   refine wp_seq_k ?_
   intro K54 hK54
   refine wrt [.p 0, .q 1, .p 2, .q 3, .p 4, .p 5, .p 6, .p 7, .e 8] ?_
   refine pp rfl rfl (pr_fieldAddr 0 rfl Tryd.underlying85 rfl rfl sz49) ?_;simp only [nf]
   refine pq rfl rfl (qr_load1 rfl Tryd.underlying49 rfl ((hH.blk 3 rfl).cell rfl)) ?_;simp only [nf]
   refine pp rfl rfl (pr_fieldAddr 0 rfl Tryd.underlying85 rfl rfl sz49) ?_;simp only [nf]
   refine pq rfl rfl (qr_load1 rfl Tryd.underlying49 rfl ((hH.blk 1 rfl).cell rfl)) ?_;simp only [nf]
   refine pm ?_;simp only [nf]
   refine pp rfl rfl (pr_bin rfl rfl (bin_and_u64 _ _)) ?_;simp only [nf]
   refine pp rfl rfl (pr_bin rfl rfl (bin_xor_u64 _ _)) ?_;simp only [nf]
   refine pp rfl rfl (pr_fieldAddr 0 rfl Tryd.underlying85 rfl rfl sz49) ?_;simp only [nf]
   refine plan_store1 3 rfl rfl hH rfl rfl rfl rfl sz49 (by simp <;> omega) ?_
   clear hH
   intro w55 hH
   (try simp only [nf, nh, Value.cells, arrB_set] at hH ⊢)
   refine plan_nil hH ?_
   clear hH
   intro w56 hH
   refine hK54 _ _ ?_
   (try clear hK54 K54)
   refine wp_seq_k ?_
   intro K57 hK57
   refine wrt [.p 0, .q 1, .p 2, .q 3, .p 4, .p 5, .p 6, .p 7, .e 8] ?_
   refine pp rfl rfl (pr_fieldAddr 1 rfl Tryd.underlying85 rfl rfl sz49) ?_;simp only [nf]
   refine pq rfl rfl (qr_load1 rfl Tryd.underlying49 rfl ((hH.blk 3 rfl).cell rfl)) ?_;simp only [nf]
   refine pp rfl rfl (pr_fieldAddr 1 rfl Tryd.underlying85 rfl rfl sz49) ?_;simp only [nf]
   refine pq rfl rfl (qr_load1 rfl Tryd.underlying49 rfl ((hH.blk 1 rfl).cell rfl)) ?_;simp only [nf]
   refine pm ?_;simp only [nf]
   refine pp rfl rfl (pr_bin rfl rfl (bin_and_u64 _ _)) ?_;simp only [nf]
   refine pp rfl rfl (pr_bin rfl rfl (bin_xor_u64 _ _)) ?_;simp only [nf]
   refine pp rfl rfl (pr_fieldAddr 1 rfl Tryd.underlying85 rfl rfl sz49) ?_;simp only [nf]
   refine plan_store1 3 rfl rfl hH rfl rfl rfl rfl sz49 (by simp <;> omega) ?_
   clear hH
   intro w58 hH
   (try simp only [nf, nh, Value.cells, arrB_set] at hH ⊢)
   refine plan_nil hH ?_
   clear hH
   intro w59 hH
   refine hK57 _ _ ?_
   (try clear hK57 K57)
   refine wp_seq_k ?_
   intro K60 hK60
   refine wrt [.p 0, .q 1, .p 2, .p 3, .p 4] ?_
   refine pp rfl rfl (pr_fieldAddr 1 rfl Tryd.underlying85 rfl rfl sz49) ?_;simp only [nf]
   refine pq rfl rfl (qr_load1 rfl Tryd.underlying49 rfl ((hH.blk 1 rfl).cell rfl)) ?_;simp only [nf]
   refine pp rfl rfl (pr_bin rfl rfl (bin_and_u64 _ 1)) ?_;simp only [nf]
   refine pp rfl rfl (pr_neg64 rfl) ?_;simp only [nf]
   refine pa ?_;simp only [nf]
   refine plan_nil hH ?_
   clear hH
   intro w61 hH
   refine hK60 _ _ ?_
   (try clear hK60 K60)
   refine wp_seq_k ?_
   intro K62 hK62
   refine wrt [.p 0, .q 1, .p 2, .p 3, .q 4, .p 5, .p 6, .p 7, .e 8] ?_
   refine pp rfl rfl (pr_fieldAddr 1 rfl Tryd.underlying85 rfl rfl sz49) ?_;simp only [nf]
   refine pq rfl rfl (qr_load1 rfl Tryd.underlying49 rfl ((hH.blk 1 rfl).cell rfl)) ?_;simp only [nf]
   refine pp rfl rfl (pr_bin rfl rfl (bin_shrc_u64 1 1 (by decide) rfl _)) ?_;simp only [nf]
   refine pp rfl rfl (pr_fieldAddr 0 rfl Tryd.underlying85 rfl rfl sz49) ?_;simp only [nf]
   refine pq rfl rfl (qr_load1 rfl Tryd.underlying49 rfl ((hH.blk 1 rfl).cell rfl)) ?_;simp only [nf]
   refine pp rfl rfl (pr_bin rfl rfl (bin_shlc_u64 63 63 (by decide) rfl _)) ?_;simp only [nf]
   refine pp rfl rfl (pr_bin rfl rfl (bin_or_u64 _ _)) ?_;simp only [nf]
   refine pp rfl rfl (pr_fieldAddr 1 rfl Tryd.underlying85 rfl rfl sz49) ?_;simp only [nf]
   refine plan_store1 1 rfl rfl hH rfl rfl rfl rfl sz49 (by simp <;> omega) ?_
   clear hH
   intro w63 hH
   (try simp only [nf, nh, Value.cells, arrB_set] at hH ⊢)
   refine plan_nil hH ?_
   clear hH
   intro w64 hH
   refine hK62 _ _ ?_
   (try clear hK62 K62)
   refine wrt [.p 0, .q 1, .p 2, .p 3, .p 4, .p 5, .p 6, .e 7] ?_
   refine pp rfl rfl (pr_fieldAddr 0 rfl Tryd.underlying85 rfl rfl sz49) ?_;simp only [nf]
   refine pq rfl rfl (qr_load1 rfl Tryd.underlying49 rfl ((hH.blk 1 rfl).cell rfl)) ?_;simp only [nf]
   refine pp rfl rfl (pr_bin rfl rfl (bin_shrc_u64 1 1 (by decide) rfl _)) ?_;simp only [nf]
   refine pm ?_;simp only [nf]
   refine pp rfl rfl (pr_bin rfl rfl (bin_and_u64 _ 16212958658533785600)) ?_;simp only [nf]
   refine pp rfl rfl (pr_bin rfl rfl (bin_xor_u64 _ _)) ?_;simp only [nf]
   refine pp rfl rfl (pr_fieldAddr 0 rfl Tryd.underlying85 rfl rfl sz49) ?_;simp only [nf]
   refine plan_store1 1 rfl rfl hH rfl rfl rfl rfl sz49 (by simp <;> omega) ?_
   clear hH
   intro w65 hH
   (try simp only [nf, nh, Value.cells, arrB_set] at hH ⊢)
   refine plan_nil hH ?_
   clear hH
   intro w66 hH
   refine hK26 _ _ ?_
   (try clear hK26 K26)
   refine wrt [.p 0, .p 1] ?_
   refine pp rfl rfl (pr_bin rfl rfl (by first | exact bin_add_n (n := 1) (by omega) | exact bin_add_i (by omega) (by omega))) ?_;simp only [nf]
   refine pm ?_;simp only [nf]
   refine plan_nil hH ?_
   clear hH
   intro w67 hH
   (try simp only [Exit.then, Exit.inBlock, ↓reduceIte, Nat.reduceEqDiff])
   refine ⟨128 - (i + 1), ?_, _, rfl, by kernel_rfl, ?_⟩
   · first | omega | (omega)
   simp only [ga]
   refine ⟨i + 1, rfl, ?_, rfl, ?_⟩
   ·
    refine hH.cast ?_
    simp only [zW, bW, mskW]
    rw [if_neg (by omega : ¬ 64 ≤ i)]
   · first | omega | (omega)
 ·
  (try simp only [cnd] at hc25)
  refine wp_exit ?_
  (try simp only [Exit.then, Exit.inBlock, ↓reduceIte, Nat.reduceEqDiff])
  refine hK13 _ _ ?_
  (try clear hK13 K13)
  refine wp_seq_k ?_
  intro K68 hK68
  refine wrt [.q 0, .e 1] ?_
  refine pq rfl rfl (qr_loadW rfl (hH.blk 3 rfl) Tryd.underlying85 rfl sz85 (by simp)) ?_;simp only [nf]
  refine plan_storeW 2 rfl rfl hH rfl rfl rfl (by simp [Value.oneCell']) sz85 (by simp) (by simp) ?_
  clear hH
  intro w69 hH
  (try simp only [nf, nh, Value.cells, arrB_set] at hH ⊢)
  refine plan_nil hH ?_
  clear hH
  intro w70 hH
  refine hK68 _ _ ?_
  (try clear hK68 K68)
  refine wp_ret ?_
  (try simp only [Exit.then, Exit.inBlock, ↓reduceIte, Nat.reduceEqDiff])
  refine BP.retc rfl rfl (hH.blk 2 rfl) Tryd.underlying85 rfl sz85 (by simp) ?_
  obtain rfl : i = 128 := by omega
  exact ⟨rfl, hH.chg⟩

end Go.Proofs.YtmoaddicejohgaaDoor
