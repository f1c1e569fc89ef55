/- Walks of aes: double, sub, mix, column, turn, each for all arguments. No further conditions. -/
import Derived.Test.YtmoaddicejohgaaDoorFacts
set_option linter.unusedSimpArgs false
set_option linter.unusedVariables false
set_option maxRecDepth 100000
set_option maxHeartbeats 4000000
namespace Go.Proofs.YtmoaddicejohgaaDoor
open Go
open List (getD_cons_zero getD_cons_succ set_cons_zero set_cons_succ)

/-- A byte of the field twice. -/
def dbl (x : UInt8) : UInt8 := x <<< 1 ^^^ x >>> 7 * 27
/-- The bytes that stand for others. -/
def sboxL : List UInt8 := [99, 124, 119, 123, 242, 107, 111, 197, 48, 1, 103, 43, 254, 215, 171, 118, 202, 130, 201, 125, 250, 89, 71, 240, 173, 212, 162, 175, 156, 164, 114, 192, 183, 253, 147, 38, 54, 63, 247, 204, 52, 165, 229, 241, 113, 216, 49, 21, 4, 199, 35, 195, 24, 150, 5, 154, 7, 18, 128, 226, 235, 39, 178, 117, 9, 131, 44, 26, 27, 110, 90, 160, 82, 59, 214, 179, 41, 227, 47, 132, 83, 209, 0, 237, 32, 252, 177, 91, 106, 203, 190, 57, 74, 76, 88, 207, 208, 239, 170, 251, 67, 77, 51, 133, 69, 249, 2, 127, 80, 60, 159, 168, 81, 163, 64, 143, 146, 157, 56, 245, 188, 182, 218, 33, 16, 255, 243, 210, 205, 12, 19, 236, 95, 151, 68, 23, 196, 167, 126, 61, 100, 93, 25, 115, 96, 129, 79, 220, 34, 42, 144, 136, 70, 238, 184, 20, 222, 94, 11, 219, 224, 50, 58, 10, 73, 6, 36, 92, 194, 211, 172, 98, 145, 149, 228, 121, 231, 200, 55, 109, 141, 213, 78, 169, 108, 86, 244, 234, 101, 122, 174, 8, 186, 120, 37, 46, 28, 166, 180, 198, 232, 221, 116, 31, 75, 189, 139, 138, 112, 62, 181, 102, 72, 3, 246, 14, 97, 53, 87, 185, 134, 193, 29, 158, 225, 248, 152, 17, 105, 217, 142, 148, 155, 30, 135, 233, 206, 85, 40, 223, 140, 161, 137, 13, 191, 230, 66, 104, 65, 153, 45, 15, 176, 84, 187, 22]
def sbox (n : Nat) : UInt8 := sboxL.getD n 0
/-- A column mixed. -/
def colf (f : Nat → UInt8) (o : Nat) : Nat → UInt8 := fun i =>
  if i = o then f o ^^^ (f o ^^^ f (o + 1) ^^^ f (o + 2) ^^^ f (o + 3) ^^^ dbl (f o ^^^ f (o + 1)))
  else if i = o + 1 then f (o + 1) ^^^ (f o ^^^ f (o + 1) ^^^ f (o + 2) ^^^ f (o + 3) ^^^ dbl (f (o + 1) ^^^ f (o + 2)))
  else if i = o + 2 then f (o + 2) ^^^ (f o ^^^ f (o + 1) ^^^ f (o + 2) ^^^ f (o + 3) ^^^ dbl (f (o + 2) ^^^ f (o + 3)))
  else if i = o + 3 then f (o + 3) ^^^ (f o ^^^ f (o + 1) ^^^ f (o + 2) ^^^ f (o + 3) ^^^ dbl (f (o + 3) ^^^ f o))
  else f i
theorem Hp.start1 {w : World} {b : Nat} {t : TypeId} {cs : Array Value} (h : Blk w b t cs) : Hp [b] w w [(some b, t, cs)] :=
  (Hp.start [b] w).add (some b, t, cs) (fun b' hb' => by cases hb'; exact ⟨.inr (by simp), h⟩) (by simp)

theorem col_step (f : Nat → UInt8) (o k i : Nat) (hk : k < 3) :
    upd (fun i => if i < o + k then colf f o i else f i) (o + k)
      ((if o + k < o + k then colf f o (o + k) else f (o + k)) ^^^
        (f o ^^^ f (o + 1) ^^^ f (o + 2) ^^^ f (o + 3) ^^^
          dbl ((if o + k < o + k then colf f o (o + k) else f (o + k)) ^^^ if o + (k + 1) < o + k then colf f o (o + (k + 1)) else f (o + (k + 1))))) i = if i < o + (k + 1) then colf f o i else f i := by
  rw [if_neg (Nat.lt_irrefl _), if_neg (by omega)]
  simp only [upd]
  by_cases h : i = o + k
  · subst h
    rw [if_pos rfl, if_pos (by omega)]
    obtain rfl | rfl | rfl : k = 0 ∨ k = 1 ∨ k = 2 := by omega
    · simp [colf]
    · simp [colf]
    · simp [colf]
  · rw [if_neg h]
    by_cases h1 : i < o + k
    · rw [if_pos h1, if_pos (by omega)]
    · rw [if_neg h1, if_neg (by omega)]
theorem col_last (f : Nat → UInt8) (o k i : Nat) (hk : 3 ≤ k) (hk' : k ≤ 3) :
    upd (fun i => if i < o + k then colf f o i else f i) (o + 3)
      ((if o + 3 < o + k then colf f o (o + 3) else f (o + 3)) ^^^
        (f o ^^^ f (o + 1) ^^^ f (o + 2) ^^^ f (o + 3) ^^^ dbl ((if o + 3 < o + k then colf f o (o + 3) else f (o + 3)) ^^^ f o))) i = colf f o i := by
  obtain rfl : k = 3 := by omega
  rw [if_neg (Nat.lt_irrefl _)]
  simp only [upd]
  by_cases h : i = o + 3
  · subst h
    simp [colf]
  · rw [if_neg h]
    by_cases h1 : i < o + 3
    · rw [if_pos h1]
    · rw [if_neg h1]
      unfold colf
      rw [if_neg (by omega), if_neg (by omega), if_neg (by omega), if_neg (by omega)]

theorem double_calls (x : UInt8) (w : World) : Ret Tryd.prog 61 #[V8 x] w fun v w' => v = V8 (dbl x) ∧ Chg [] w w' := by
 refine Ret.enter Tryd.func61 rfl ?_
 simp only [Tryd.ntmps61, fe, Nat.reduceAdd, Nat.reduceSub]
 have hH := Hp.start [] w
 refine wp_seq_k ?_
 intro K1 hK1
 refine wrt [.p 0] ?_
 refine pa ?_;simp only [nf]
 refine plan_nil hH ?_
 clear hH
 intro w2 hH
 refine hK1 _ _ ?_
 (try clear hK1 K1)
 refine wp_seq_k ?_
 intro K3 hK3
 refine wrt [.p 0, .p 1, .p 2, .p 3, .p 4, .p 5, .p 6] ?_
 refine pm ?_;simp only [nf]
 refine pp rfl rfl (pr_bin rfl rfl (bin_shlc_u8 1 1 (by decide) rfl _)) ?_;simp only [nf]
 refine pm ?_;simp only [nf]
 refine pp rfl rfl (pr_bin rfl rfl (bin_shrc_u8 7 7 (by decide) rfl _)) ?_;simp only [nf]
 refine pp rfl rfl (pr_bin rfl rfl (bin_mul_u8 _ 27)) ?_;simp only [nf]
 refine pp rfl rfl (pr_bin rfl rfl (bin_xor_u8 _ _)) ?_;simp only [nf]
 refine pa ?_;simp only [nf]
 refine plan_nil hH ?_
 clear hH
 intro w4 hH
 refine hK3 _ _ ?_
 (try clear hK3 K3)
 refine wp_ret ?_
 (try simp only [Exit.then, Exit.inBlock, ↓reduceIte, Nat.reduceEqDiff])
 refine BP.ret1 rfl rfl ?_
 exact ⟨rfl, hH.chg⟩

theorem sub_calls (w : World) : Ret Tryd.prog 60 #[] w fun v w' => v = .agg (arr8 256 sbox) ∧ Chg [] w w' := by
 refine Ret.enter Tryd.func60 rfl ?_
 simp only [Tryd.ntmps60, fe, Nat.reduceAdd, Nat.reduceSub]
 have hH := Hp.start [] w
 refine wp_seq_k ?_
 intro K1 hK1
 refine wrt [.x 0] ?_
 refine plan_alloc rfl rfl hH zc99 ?_
 clear hH
 intro b2 w3 hH
 (try simp only [nf, nh, Value.cells] at hH ⊢)
 refine plan_nil hH ?_
 clear hH
 intro w4 hH
 refine hK1 _ _ ?_
 (try clear hK1 K1)
 refine wp_seq_k ?_
 intro K5 hK5
 refine wrt [.p 0, .e 1] ?_
 refine plan_p (v := .agg (arr8 256 sbox)) rfl rfl (fun w => by kernel_rfl) ?_
 (try simp only [nf])
 refine plan_storeW 0 rfl rfl hH rfl rfl rfl one_arr8 sz99 (by simp) (by simp) ?_
 clear hH
 intro w6 hH
 (try simp only [nf, nh, Value.cells] at hH ⊢)
 refine plan_nil hH ?_
 clear hH
 intro w7 hH
 refine hK5 _ _ ?_
 (try clear hK5 K5)
 refine wp_ret ?_
 (try simp only [Exit.then, Exit.inBlock, ↓reduceIte, Nat.reduceEqDiff])
 refine BP.retc rfl rfl (hH.blk 0 rfl) Tryd.underlying99 rfl sz99 (by simp) ?_
 exact ⟨rfl, hH.chg⟩

theorem mix_calls (f g : Nat → UInt8) (w : World) : Ret Tryd.prog 74 #[.agg (arr8 16 f), .agg (arr8 16 g)] w fun v w' => v = .agg (arr8 16 fun i => f i ^^^ g i) ∧ Chg [] w w' := by
 refine Ret.enter Tryd.func74 rfl ?_
 simp only [Tryd.ntmps74, fe, Nat.reduceAdd, Nat.reduceSub]
 have hH := Hp.start [] w
 refine wp_seq_k ?_
 intro K1 hK1
 refine wrt [.x 0, .x 1, .x 2] ?_
 refine plan_box rfl rfl hH rfl ?_
 clear hH
 intro b2 w3 hH
 (try simp only [nf, nh, Value.cells] at hH ⊢)
 refine plan_box rfl rfl hH rfl ?_
 clear hH
 intro b4 w5 hH
 (try simp only [nf, nh, Value.cells] at hH ⊢)
 refine plan_alloc rfl rfl hH zc87 ?_
 clear hH
 intro b6 w7 hH
 (try simp only [nf, nh, Value.cells] at hH ⊢)
 refine plan_nil hH ?_
 clear hH
 intro w8 hH
 refine hK1 _ _ ?_
 (try clear hK1 K1)
 refine wp_seq_k ?_
 intro K9 hK9
 refine wp_seq_k ?_
 intro K10 hK10
 refine wrt [.p 0] ?_
 refine pk 0 ?_;simp only [nf]
 refine plan_nil hH ?_
 clear hH
 intro w11 hH
 refine hK10 _ _ ?_
 (try clear hK10 K10)
 refine wp_block ?_
 refine wp_loopT [6] [5, 7, 8, 9, 10, 11, 12, 13, 14, 15, 16, 17] (fun (n12 : Nat) (vs : List Value) (w' : World) => ∃ (k : Nat), vs = [I64 (k : Nat)] ∧ Hp [] w w' [(some b2, 87, arr8 16 fun i => if i < k then f i ^^^ g i else f i), (some b4, 87, arr8 16 g), (some b6, 87, arr8 16 fun _ => 0)] ∧ n12 = 16 - k ∧ k ≤ 16) (16 - 0) (by kernel_rfl) ?_ ?_
 ·
  simp only [ga]
  refine ⟨0, rfl, ?_, rfl, ?_⟩
  ·
   exact hH.say 0 rfl (arr8_congr fun i hi => by rw [if_neg (by omega)])
  · first | omega | (omega)
 clear hH
 intro n12 vs13 w14 hR15 d0
 obtain ⟨k, rfl, hH, hn16, hf17⟩ := hR15
 simp only [putAll, putD, List.set_cons_zero, List.set_cons_succ, Nat.zero_add, Nat.reduceAdd]
 refine wp_seq_k ?_
 intro K18 hK18
 refine wrt [.p 0] ?_
 refine pp rfl rfl (pr_bin rfl rfl (by first | exact bin_lss_n (n := 16)  | exact bin_lss_i)) ?_;simp only [nf]
 refine plan_nil hH ?_
 clear hH
 intro w19 hH
 refine hK18 _ _ ?_
 (try clear hK18 K18)
 refine wp_seq_k ?_
 intro K20 hK20
 refine wp_cond_split rfl (fun hc21 => ?_) (fun hc21 => ?_)
 ·
  (try simp only [cnd] at hc21)
  refine wp_skip ?_
  refine hK20 _ _ ?_
  (try clear hK20 K20)
  refine wp_seq_k ?_
  intro K22 hK22
  refine wp_block ?_
  refine wp_seq_k ?_
  intro K23 hK23
  refine wrt [.p 0, .p 1] ?_
  refine pm (pa ?_);simp only [nf]
  refine plan_nil hH ?_
  clear hH
  intro w24 hH
  refine hK23 _ _ ?_
  (try clear hK23 K23)
  refine wrp [.p 0, .p 1, .p 3, .p 4, .q 2, .q 5, .p 6, .p 7, .e 8] ?_
  refine pm ?_;simp only [nf]
  refine pp rfl rfl (pr_idxA1 rfl rfl Tryd.underlying87 sz5 (by omega)) ?_;simp only [nf]
  refine pm ?_;simp only [nf]
  refine pp rfl rfl (pr_idxA1 rfl rfl Tryd.underlying87 sz5 (by omega)) ?_;simp only [nf]
  refine pq rfl rfl (qr_load1 rfl Tryd.underlying5 rfl ((hH.blk 0 rfl).cell (arr8_get (by omega)))) ?_;simp only [nf]
  refine pq rfl rfl (qr_load1 rfl Tryd.underlying5 rfl ((hH.blk 1 rfl).cell (arr8_get (by omega)))) ?_;simp only [nf]
  refine pp rfl rfl (pr_bin rfl rfl (bin_xor_u8 _ _)) ?_;simp only [nf]
  refine pp rfl rfl (pr_idxA1 rfl rfl Tryd.underlying87 sz5 (by omega)) ?_;simp only [nf]
  refine plan_store1 0 rfl rfl hH rfl rfl rfl rfl sz5 (by simp <;> omega) ?_
  clear hH
  intro w25 hH
  (try simp only [nf, nh, Value.cells] at hH ⊢)
  refine plan_nil hH ?_
  clear hH
  intro w26 hH
  refine hK22 _ _ ?_
  (try clear hK22 K22)
  refine wrt [.p 0, .p 1] ?_
  refine pp rfl rfl (pr_bin rfl rfl (by first | exact bin_add_n (n := 1) (by omega) | exact bin_add_i (by omega) (by omega))) ?_;simp only [nf]
  refine pm ?_;simp only [nf]
  refine plan_nil hH ?_
  clear hH
  intro w27 hH
  (try simp only [Exit.then, Exit.inBlock, ↓reduceIte, Nat.reduceEqDiff])
  refine ⟨16 - (k + 1), ?_, _, rfl, by kernel_rfl, ?_⟩
  · first | omega | (omega)
  simp only [ga]
  refine ⟨k + 1, rfl, ?_, rfl, ?_⟩
  ·
   exact hH.say 0 rfl (arr8_congr fun i hi => upd_lt (g := fun i => f i ^^^ g i) (z := f) (by rw [if_neg (Nat.lt_irrefl _)]) i)
  · first | omega | (omega)
 ·
  (try simp only [cnd] at hc21)
  refine wp_exit ?_
  (try simp only [Exit.then, Exit.inBlock, ↓reduceIte, Nat.reduceEqDiff])
  refine hK9 _ _ ?_
  (try clear hK9 K9)
  refine wp_seq_k ?_
  intro K28 hK28
  refine wrt [.q 0, .e 1] ?_
  refine pq rfl rfl (qr_loadW rfl (hH.blk 0 rfl) Tryd.underlying87 rfl sz87 (by simp)) ?_;simp only [nf]
  refine plan_storeW 2 rfl rfl hH rfl rfl rfl one_arr8 sz87 (by simp) (by simp) ?_
  clear hH
  intro w29 hH
  (try simp only [nf, nh, Value.cells] at hH ⊢)
  refine plan_nil hH ?_
  clear hH
  intro w30 hH
  refine hK28 _ _ ?_
  (try clear hK28 K28)
  refine wp_ret ?_
  (try simp only [Exit.then, Exit.inBlock, ↓reduceIte, Nat.reduceEqDiff])
  refine BP.retc rfl rfl (hH.blk 2 rfl) Tryd.underlying87 rfl sz87 (by simp) ?_
  exact ⟨by rw [arr8_congr fun i hi => if_pos (by omega)], hH.chg⟩

theorem column_calls (b o m T c : Nat) (f : Nat → UInt8) (ho : o + 4 ≤ m) (w : World) (hb : Blk w b T (arr8 m f)) :
    Ret Tryd.prog 75 #[.slice (some ⟨b, o, none⟩) 4 c] w fun v w' => v = .tuple #[] ∧ Chg [b] w w' ∧ Blk w' b T (arr8 m (colf f o)) := by
 refine Ret.enter Tryd.func75 rfl ?_
 simp only [Tryd.ntmps75, fe, Nat.reduceAdd, Nat.reduceSub]
 have hH := Hp.start1 hb
 refine wp_seq_k ?_
 intro K1 hK1
 refine wrp [.p 0, .p 1, .p 3, .p 4, .p 7, .p 8, .p 11, .p 12, .p 15, .p 16, .q 2, .q 5, .p 6, .q 9, .p 10, .q 13, .p 14, .p 18, .q 17, .p 19] ?_
 refine pm ?_;simp only [nf]
 refine pp rfl rfl (pr_idxS1 (i := 0) rfl rfl Tryd.underlying22 sz5 (by omega)) ?_;simp only [nf]
 refine pm ?_;simp only [nf]
 refine pp rfl rfl (pr_idxS1 (i := 1) rfl rfl Tryd.underlying22 sz5 (by omega)) ?_;simp only [nf]
 refine pm ?_;simp only [nf]
 refine pp rfl rfl (pr_idxS1 (i := 2) rfl rfl Tryd.underlying22 sz5 (by omega)) ?_;simp only [nf]
 refine pm ?_;simp only [nf]
 refine pp rfl rfl (pr_idxS1 (i := 3) rfl rfl Tryd.underlying22 sz5 (by omega)) ?_;simp only [nf]
 refine pm ?_;simp only [nf]
 refine pp rfl rfl (pr_idxS1 (i := 0) rfl rfl Tryd.underlying22 sz5 (by omega)) ?_;simp only [nf]
 refine pq rfl rfl (qr_load1 rfl Tryd.underlying5 rfl ((hH.blk 0 rfl).cell (arr8_get (by omega)))) ?_;simp only [nf]
 refine pq rfl rfl (qr_load1 rfl Tryd.underlying5 rfl ((hH.blk 0 rfl).cell (arr8_get (by omega)))) ?_;simp only [nf]
 refine pp rfl rfl (pr_bin rfl rfl (bin_xor_u8 _ _)) ?_;simp only [nf]
 refine pq rfl rfl (qr_load1 rfl Tryd.underlying5 rfl ((hH.blk 0 rfl).cell (arr8_get (by omega)))) ?_;simp only [nf]
 refine pp rfl rfl (pr_bin rfl rfl (bin_xor_u8 _ _)) ?_;simp only [nf]
 refine pq rfl rfl (qr_load1 rfl Tryd.underlying5 rfl ((hH.blk 0 rfl).cell (arr8_get (by omega)))) ?_;simp only [nf]
 refine pp rfl rfl (pr_bin rfl rfl (bin_xor_u8 _ _)) ?_;simp only [nf]
 refine pa ?_;simp only [nf]
 refine pq rfl rfl (qr_load1 rfl Tryd.underlying5 rfl ((hH.blk 0 rfl).cell (arr8_get (by omega)))) ?_;simp only [nf]
 refine pa ?_;simp only [nf]
 refine plan_nil hH ?_
 clear hH
 intro w2 hH
 refine hK1 _ _ ?_
 (try clear hK1 K1)
 refine wp_seq_k ?_
 intro K3 hK3
 refine wp_seq_k ?_
 intro K4 hK4
 refine wrt [.p 0] ?_
 refine pk 0 ?_;simp only [nf]
 refine plan_nil hH ?_
 clear hH
 intro w5 hH
 refine hK4 _ _ ?_
 (try clear hK4 K4)
 refine wp_block ?_
 refine wp_loopT [23] [4, 24, 25, 26, 27, 28, 29, 30, 31, 32, 33, 34, 35, 36, 37, 38, 39, 40, 41, 42, 43, 44, 45] (fun (n6 : Nat) (vs : List Value) (w' : World) => ∃ (k : Nat), vs = [I64 (k : Nat)] ∧ Hp [b] w w' [(some b, T, arr8 m fun i => if i < o + k then colf f o i else f i)] ∧ n6 = 3 - k ∧ k ≤ 3) (3 - 0) (by kernel_rfl) ?_ ?_
 ·
  simp only [ga]
  refine ⟨0, rfl, ?_, rfl, ?_⟩
  ·
   exact hH.say 0 rfl (arr8_congr fun i hi => by split <;> first | rfl | (unfold colf; rw [if_neg (by omega), if_neg (by omega), if_neg (by omega), if_neg (by omega)]))
  · first | omega | (omega)
 clear hH
 intro n6 vs7 w8 hR9 d0
 obtain ⟨k, rfl, hH, hn10, hf11⟩ := hR9
 simp only [putAll, putD, List.set_cons_zero, List.set_cons_succ, Nat.zero_add, Nat.reduceAdd]
 refine wp_seq_k ?_
 intro K12 hK12
 refine wrt [.p 0] ?_
 refine pp rfl rfl (pr_bin rfl rfl (by first | exact bin_lss_n (n := 3)  | exact bin_lss_i)) ?_;simp only [nf]
 refine plan_nil hH ?_
 clear hH
 intro w13 hH
 refine hK12 _ _ ?_
 (try clear hK12 K12)
 refine wp_seq_k ?_
 intro K14 hK14
 refine wp_cond_split rfl (fun hc15 => ?_) (fun hc15 => ?_)
 ·
  (try simp only [cnd] at hc15)
  refine wp_skip ?_
  refine hK14 _ _ ?_
  (try clear hK14 K14)
  refine wp_seq_k ?_
  intro K16 hK16
  refine wp_block ?_
  refine wp_seq_k ?_
  intro K17 hK17
  refine wrt [.p 0, .p 1] ?_
  refine pm (pa ?_);simp only [nf]
  refine plan_nil hH ?_
  clear hH
  intro w18 hH
  refine hK17 _ _ ?_
  (try clear hK17 K17)
  refine wrp [.p 0, .p 1, .p 2, .p 4, .p 5, .p 6, .p 7, .p 9, .p 10, .p 11, .p 12, .q 3, .q 8, .q 13, .p 14, .q 15, .p 16, .p 17, .p 18, .e 19] ?_
  refine pm (pm ?_);simp only [nf]
  refine pp rfl rfl (pr_idxS1 rfl rfl Tryd.underlying22 sz5 (by omega)) ?_;simp only [nf]
  refine pm (pm (pm ?_));simp only [nf]
  refine pp rfl rfl (pr_idxS1 rfl rfl Tryd.underlying22 sz5 (by omega)) ?_;simp only [nf]
  refine pm (pm ?_);simp only [nf]
  refine pp rfl rfl (pr_bin rfl rfl (by first | exact bin_add_n (n := 1) (by omega) | exact bin_add_i (by omega) (by omega))) ?_;simp only [nf]
  refine pp rfl rfl (pr_idxS1 rfl rfl Tryd.underlying22 sz5 (by omega)) ?_;simp only [nf]
  refine pq rfl rfl (qr_load1 rfl Tryd.underlying5 rfl ((hH.blk 0 rfl).cell (arr8_get (by omega)))) ?_;simp only [nf]
  refine pq rfl rfl (qr_load1 rfl Tryd.underlying5 rfl ((hH.blk 0 rfl).cell (arr8_get (by omega)))) ?_;simp only [nf]
  refine pq rfl rfl (qr_load1 rfl Tryd.underlying5 rfl ((hH.blk 0 rfl).cell (arr8_get (by omega)))) ?_;simp only [nf]
  refine pp rfl rfl (pr_bin rfl rfl (bin_xor_u8 _ _)) ?_;simp only [nf]
  refine pq rfl rfl (qr_call cf61 (fun w' hw => double_calls _ w') rfl) ?_;simp only [nf]
  refine pp rfl rfl (pr_bin rfl rfl (bin_xor_u8 _ _)) ?_;simp only [nf]
  refine pp rfl rfl (pr_bin rfl rfl (bin_xor_u8 _ _)) ?_;simp only [nf]
  refine pp rfl rfl (pr_idxS1 rfl rfl Tryd.underlying22 sz5 (by omega)) ?_;simp only [nf]
  refine plan_store1 0 rfl rfl hH rfl rfl rfl rfl sz5 (by simp <;> omega) ?_
  clear hH
  intro w19 hH
  (try simp only [nf, nh, Value.cells] at hH ⊢)
  refine plan_nil hH ?_
  clear hH
  intro w20 hH
  refine hK16 _ _ ?_
  (try clear hK16 K16)
  refine wrt [.p 0, .p 1] ?_
  refine pp rfl rfl (pr_bin rfl rfl (by first | exact bin_add_n (n := 1) (by omega) | exact bin_add_i (by omega) (by omega))) ?_;simp only [nf]
  refine pm ?_;simp only [nf]
  refine plan_nil hH ?_
  clear hH
  intro w21 hH
  (try simp only [Exit.then, Exit.inBlock, ↓reduceIte, Nat.reduceEqDiff])
  refine ⟨3 - (k + 1), ?_, _, rfl, by kernel_rfl, ?_⟩
  · first | omega | (omega)
  simp only [ga]
  refine ⟨k + 1, rfl, ?_, rfl, ?_⟩
  ·
   exact hH.say 0 rfl (arr8_congr fun i hi => col_step f o k i (by omega))
  · first | omega | (omega)
 ·
  (try simp only [cnd] at hc15)
  refine wp_exit ?_
  (try simp only [Exit.then, Exit.inBlock, ↓reduceIte, Nat.reduceEqDiff])
  refine hK3 _ _ ?_
  (try clear hK3 K3)
  refine wrp [.p 0, .p 1, .p 3, .p 4, .p 5, .p 7, .q 2, .q 6, .p 8, .q 9, .p 10, .p 11, .p 12, .e 13] ?_
  refine pm ?_;simp only [nf]
  refine pp rfl rfl (pr_idxS1 (i := 3) rfl rfl Tryd.underlying22 sz5 (by omega)) ?_;simp only [nf]
  refine pm (pm ?_);simp only [nf]
  refine pp rfl rfl (pr_idxS1 (i := 3) rfl rfl Tryd.underlying22 sz5 (by omega)) ?_;simp only [nf]
  refine pm ?_;simp only [nf]
  refine pq rfl rfl (qr_load1 rfl Tryd.underlying5 rfl ((hH.blk 0 rfl).cell (arr8_get (by omega)))) ?_;simp only [nf]
  refine pq rfl rfl (qr_load1 rfl Tryd.underlying5 rfl ((hH.blk 0 rfl).cell (arr8_get (by omega)))) ?_;simp only [nf]
  refine pp rfl rfl (pr_bin rfl rfl (bin_xor_u8 _ _)) ?_;simp only [nf]
  refine pq rfl rfl (qr_call cf61 (fun w' hw => double_calls _ w') rfl) ?_;simp only [nf]
  refine pp rfl rfl (pr_bin rfl rfl (bin_xor_u8 _ _)) ?_;simp only [nf]
  refine pp rfl rfl (pr_bin rfl rfl (bin_xor_u8 _ _)) ?_;simp only [nf]
  refine pp rfl rfl (pr_idxS1 (i := 3) rfl rfl Tryd.underlying22 sz5 (by omega)) ?_;simp only [nf]
  refine plan_store1 0 rfl rfl hH rfl rfl rfl rfl sz5 (by simp <;> omega) ?_
  clear hH
  intro w22 hH
  (try simp only [nf, nh, Value.cells] at hH ⊢)
  refine plan_nil hH ?_
  clear hH
  intro w23 hH
  refine BP.normal ?_
  refine BP.ret0 rfl rfl ?_
  exact ⟨rfl, hH.chg, (hH.say 0 rfl (arr8_congr fun i hi => col_last f o k i (by omega) (by omega))).blk 0 rfl⟩

/-- Bytes are replaced, and their rows turned. -/
def subs (s : Nat → UInt8) : Nat → UInt8 := fun j => sbox (s ((j + 4 * (j % 4)) % 16)).toNat
def colsN (t : Nat → UInt8) : Nat → (Nat → UInt8)
  | 0 => t
  | n + 1 => colf (colsN t n) (4 * n)
/-- The state behind n rounds. -/
def aesR (k s : Nat → UInt8) : Nat → (Nat → UInt8)
  | 0 => fun j => s j ^^^ k j
  | n + 1 => fun j => (if n + 1 < 10 then colsN (subs (aesR k s n)) 4 else subs (aesR k s n)) j ^^^ k ((n + 1) * 16 + j)
theorem aesR_succ (k s : Nat → UInt8) (n : Nat) : aesR k s (n + 1) = fun j => (if n + 1 < 10 then colsN (subs (aesR k s n)) 4 else subs (aesR k s n)) j ^^^ k ((n + 1) * 16 + j) := rfl

theorem turn_calls (bc : Nat) (kf f : Nat → UInt8) (w : World) (hc : Blk w bc 109 (arr8 176 kf)) :
    Ret Tryd.prog 62 #[PT bc 0, .agg (arr8 16 f)] w fun v w' => v = .agg (arr8 16 (aesR kf f 10)) ∧ Chg [] w w' := by
 refine Ret.enter Tryd.func62 rfl ?_
 simp only [Tryd.ntmps62, fe, Nat.reduceAdd, Nat.reduceSub]
 have hH := Hp.start [] w
 refine wp_seq_k ?_
 intro K1 hK1
 refine wrt [.x 0, .x 1] ?_
 refine plan_box rfl rfl hH rfl ?_
 clear hH
 intro b2 w3 hH
 (try simp only [nf, nh, Value.cells] at hH ⊢)
 refine plan_alloc rfl rfl hH zc87 ?_
 clear hH
 intro b4 w5 hH
 (try simp only [nf, nh, Value.cells] at hH ⊢)
 refine plan_nil hH ?_
 clear hH
 intro w6 hH
 refine hK1 _ _ ?_
 (try clear hK1 K1)
 refine wp_seq_k ?_
 intro K7 hK7
 refine wrp [.p 1, .p 2, .p 3, .p 4, .q 0, .q 5, .q 6, .x 7, .e 8] ?_
 refine pm ?_;simp only [nf]
 refine pp rfl rfl (pr_nilCheck rfl) ?_;simp only [nf]
 refine pp rfl rfl (pr_fieldAddr 0 rfl Tryd.underlying109 rfl rfl sz107) ?_;simp only [nf]
 refine pp rfl rfl (pr_idxA (i := 0) rfl rfl Tryd.underlying107 sz87 (by omega)) ?_;simp only [nf]
 refine pq rfl rfl (qr_loadW rfl (hH.blk 0 rfl) Tryd.underlying87 rfl sz87 (by simp)) ?_;simp only [nf]
 refine pq rfl rfl (qr_load8 rfl (hH.chg.nil_blk hc) Tryd.underlying87 rfl sz87 (by omega)) ?_;simp only [nf]
 refine pq rfl rfl (qr_call cf74 (fun w' hw => mix_calls _ _ w') rfl) ?_;simp only [nf]
 refine plan_alloc rfl rfl hH zc87 ?_
 clear hH
 intro b8 w9 hH
 (try simp only [nf, nh, Value.cells] at hH ⊢)
 refine plan_storeW 2 rfl rfl hH rfl rfl rfl one_arr8 sz87 (by simp) (by simp) ?_
 clear hH
 intro w10 hH
 (try simp only [nf, nh, Value.cells] at hH ⊢)
 refine plan_nil hH ?_
 clear hH
 intro w11 hH
 refine hK7 _ _ ?_
 (try clear hK7 K7)
 refine wp_seq_k ?_
 intro K12 hK12
 refine wp_seq_k ?_
 intro K13 hK13
 refine wrt [.p 0] ?_
 refine pka 1 ?_;simp only [nf]
 refine plan_nil hH ?_
 clear hH
 intro w14 hH
 refine hK13 _ _ ?_
 (try clear hK13 K13)
 refine wp_block ?_
 refine wp_loopT [6] [7, 8, 9, 17, 18, 19, 20, 21, 22, 23, 24, 25, 26, 27, 28, 29, 30, 31, 32, 33, 34, 35, 36, 37, 38, 39, 40, 41, 42, 43, 44, 45, 46, 47, 48, 49, 50, 51, 52, 53, 54, 55] (fun (n15 : Nat) (vs : List Value) (w' : World) => ∃ (k : Nat), vs = [I64 ((k + 1 : Nat))] ∧ Hp [] w w' [(some b2, 87, arr8 16 f), (some b4, 87, arr8 16 fun _ => 0), (some b8, 87, arr8 16 (aesR kf f k))] ∧ n15 = 10 - k ∧ k ≤ 10) (10 - 0) (by kernel_rfl) ?_ ?_
 ·
  simp only [ga]
  refine ⟨0, rfl, ?_, rfl, ?_⟩
  ·
   exact hH.say 2 rfl rfl
  · first | omega | (omega)
 clear hH
 intro n15 vs16 w17 hR18 d0
 obtain ⟨k, rfl, hH, hn19, hf20⟩ := hR18
 simp only [putAll, putD, List.set_cons_zero, List.set_cons_succ, Nat.zero_add, Nat.reduceAdd]
 refine wp_seq_k ?_
 intro K21 hK21
 refine wp_seq_k ?_
 intro K22 hK22
 refine wrt [.p 0, .p 1] ?_
 refine pm ?_;simp only [nf]
 refine pp rfl rfl (pr_bin rfl rfl (by first | exact bin_leq_n (n := 10)  | exact bin_leq_i)) ?_;simp only [nf]
 refine plan_nil hH ?_
 clear hH
 intro w23 hH
 refine hK22 _ _ ?_
 (try clear hK22 K22)
 refine wp_cond_split rfl (fun hc24 => ?_) (fun hc24 => ?_)
 ·
  (try simp only [cnd] at hc24)
  refine wp_skip ?_
  refine hK21 _ _ ?_
  (try clear hK21 K21)
  refine wp_seq_k ?_
  intro K25 hK25
  refine wp_block ?_
  refine wp_seq_k ?_
  intro K26 hK26
  refine wrt [.x 0] ?_
  refine plan_alloc rfl rfl hH zc87 ?_
  clear hH
  intro b27 w28 hH
  (try simp only [nf, nh, Value.cells] at hH ⊢)
  refine plan_nil hH ?_
  clear hH
  intro w29 hH
  refine hK26 _ _ ?_
  (try clear hK26 K26)
  refine wp_seq_k ?_
  intro K30 hK30
  refine wp_seq_k ?_
  intro K31 hK31
  refine wrt [.p 0] ?_
  refine pk 0 ?_;simp only [nf]
  refine plan_nil hH ?_
  clear hH
  intro w32 hH
  refine hK31 _ _ ?_
  (try clear hK31 K31)
  refine wp_block ?_
  refine wp_loopT [21] [8, 22, 23, 24, 25, 26, 27, 28, 29, 30, 31, 32, 33, 34, 35, 36] (fun (n33 : Nat) (vs : List Value) (w' : World) => ∃ (j : Nat), vs = [I64 (j : Nat)] ∧ Hp [] w w' [(some b2, 87, arr8 16 f), (some b4, 87, arr8 16 fun _ => 0), (some b8, 87, arr8 16 (aesR kf f k)), (some b27, 87, arr8 16 fun i => if i < j then subs (aesR kf f k) i else 0)] ∧ n33 = 16 - j ∧ j ≤ 16) (16 - 0) (by kernel_rfl) ?_ ?_
  ·
   simp only [ga]
   refine ⟨0, rfl, ?_, rfl, ?_⟩
   ·
    exact hH.say 3 rfl (arr8_congr fun i hi => by rw [if_neg (by omega)])
   · first | omega | (omega)
  clear hH
  intro n33 vs34 w35 hR36 d1
  obtain ⟨j, rfl, hH, hn37, hf38⟩ := hR36
  simp only [putAll, putD, List.set_cons_zero, List.set_cons_succ, Nat.zero_add, Nat.reduceAdd]
  refine wp_seq_k ?_
  intro K39 hK39
  refine wrt [.p 0] ?_
  refine pp rfl rfl (pr_bin rfl rfl (by first | exact bin_lss_n (n := 16)  | exact bin_lss_i)) ?_;simp only [nf]
  refine plan_nil hH ?_
  clear hH
  intro w40 hH
  refine hK39 _ _ ?_
  (try clear hK39 K39)
  refine wp_seq_k ?_
  intro K41 hK41
  refine wp_cond_split rfl (fun hc42 => ?_) (fun hc42 => ?_)
  ·
   (try simp only [cnd] at hc42)
   refine wp_skip ?_
   refine hK41 _ _ ?_
   (try clear hK41 K41)
   refine wp_seq_k ?_
   intro K43 hK43
   refine wp_block ?_
   refine wp_seq_k ?_
   intro K44 hK44
   refine wrt [.p 0, .p 1] ?_
   refine pm (pa ?_);simp only [nf]
   refine plan_nil hH ?_
   clear hH
   intro w45 hH
   refine hK44 _ _ ?_
   (try clear hK44 K44)
   refine wrp [.p 0, .p 2, .p 3, .p 4, .p 5, .p 6, .p 7, .p 8, .q 1, .q 9, .p 10, .p 11, .e 12] ?_
   refine pm (pm (pm ?_));simp only [nf]
   refine pp rfl rfl (pr_bin rfl rfl (by first | exact bin_rem_n (n := 4) (by omega))) ?_;simp only [nf]
   refine pp rfl rfl (pr_bin rfl rfl (by first | exact bin_mul_n (m := 4) (by omega) | exact bin_mul_i (by omega) (by omega))) ?_;simp only [nf]
   refine pp rfl rfl (pr_bin rfl rfl (by first | exact bin_add_n (by omega) | exact bin_add_i (by omega) (by omega))) ?_;simp only [nf]
   refine pp rfl rfl (pr_bin rfl rfl (by first | exact bin_rem_n (n := 16) (by omega))) ?_;simp only [nf]
   refine pp rfl rfl (pr_idxA1 rfl rfl Tryd.underlying87 sz5 (by omega)) ?_;simp only [nf]
   refine pq rfl rfl (qr_call cf60 (fun w' hw => sub_calls w') rfl) ?_;simp only [nf]
   refine pq rfl rfl (qr_load1 rfl Tryd.underlying5 rfl ((hH.blk 2 rfl).cell (arr8_get (by omega)))) ?_;simp only [nf]
   refine pp rfl rfl (pr_index_arr rfl rfl Tryd.underlying99 sz5 (notAgg Tryd.underlying5 rfl) (by first | omega | exact lt_u8 _) (arr8_get (by first | omega | exact lt_u8 _))) ?_;simp only [nf]
   refine pp rfl rfl (pr_idxA1 rfl rfl Tryd.underlying87 sz5 (by omega)) ?_;simp only [nf]
   refine plan_store1 3 rfl rfl hH rfl rfl rfl rfl sz5 (by simp <;> omega) ?_
   clear hH
   intro w46 hH
   (try simp only [nf, nh, Value.cells] at hH ⊢)
   refine plan_nil hH ?_
   clear hH
   intro w47 hH
   refine hK43 _ _ ?_
   (try clear hK43 K43)
   refine wrt [.p 0, .p 1] ?_
   refine pp rfl rfl (pr_bin rfl rfl (by first | exact bin_add_n (n := 1) (by omega) | exact bin_add_i (by omega) (by omega))) ?_;simp only [nf]
   refine pm ?_;simp only [nf]
   refine plan_nil hH ?_
   clear hH
   intro w48 hH
   (try simp only [Exit.then, Exit.inBlock, ↓reduceIte, Nat.reduceEqDiff])
   refine ⟨16 - (j + 1), ?_, _, rfl, by kernel_rfl, ?_⟩
   · first | omega | (omega)
   simp only [ga]
   refine ⟨j + 1, rfl, ?_, rfl, ?_⟩
   ·
    exact hH.say 3 rfl (arr8_congr fun i hi => upd_lt (g := subs (aesR kf f k)) (z := fun _ => 0) rfl i)
   · first | omega | (omega)
  ·
   (try simp only [cnd] at hc42)
   refine wp_exit ?_
   (try simp only [Exit.then, Exit.inBlock, ↓reduceIte, Nat.reduceEqDiff])
   refine hK30 _ _ ?_
   (try clear hK30 K30)
   refine wp_seq_k ?_
   intro K49 hK49
   refine wp_seq_k ?_
   intro K50 hK50
   refine wrt [.p 0, .p 1] ?_
   refine pm ?_;simp only [nf]
   refine pp rfl rfl (pr_bin rfl rfl (by first | exact bin_lss_n (n := 10)  | exact bin_lss_i)) ?_;simp only [nf]
   refine plan_nil hH ?_
   clear hH
   intro w51 hH
   refine hK50 _ _ ?_
   (try clear hK50 K50)
   refine wp_cond_split rfl (fun hc52 => ?_) (fun hc52 => ?_)
   ·
    (try simp only [cnd] at hc52)
    refine wp_seq_k ?_
    intro K53 hK53
    refine wrt [.p 0] ?_
    refine pka 0 ?_;simp only [nf]
    refine plan_nil hH ?_
    clear hH
    intro w54 hH
    refine hK53 _ _ ?_
    (try clear hK53 K53)
    refine wp_block ?_
    refine wp_loopT [9] [39, 40, 41, 42, 43, 44, 45, 46, 47] (fun (n55 : Nat) (vs : List Value) (w' : World) => ∃ (j : Nat), vs = [I64 ((4 * j : Nat))] ∧ Hp [] w w' [(some b2, 87, arr8 16 f), (some b4, 87, arr8 16 fun _ => 0), (some b8, 87, arr8 16 (aesR kf f k)), (some b27, 87, arr8 16 (colsN (subs (aesR kf f k)) j))] ∧ n55 = 4 - j ∧ j ≤ 4) (4 - 0) (by kernel_rfl) ?_ ?_
    ·
     simp only [ga]
     refine ⟨0, rfl, ?_, rfl, ?_⟩
     ·
      exact hH.say 3 rfl (arr8_congr fun i hi => by rw [if_pos (by omega)]; rfl)
     · first | omega | (omega)
    clear hH
    intro n55 vs56 w57 hR58 d2
    obtain ⟨j, rfl, hH, hn59, hf60⟩ := hR58
    simp only [putAll, putD, List.set_cons_zero, List.set_cons_succ, Nat.zero_add, Nat.reduceAdd]
    refine wp_seq_k ?_
    intro K61 hK61
    refine wp_seq_k ?_
    intro K62 hK62
    refine wrt [.p 0, .p 1] ?_
    refine pm ?_;simp only [nf]
    refine pp rfl rfl (pr_bin rfl rfl (by first | exact bin_lss_n (n := 16)  | exact bin_lss_i)) ?_;simp only [nf]
    refine plan_nil hH ?_
    clear hH
    intro w63 hH
    refine hK62 _ _ ?_
    (try clear hK62 K62)
    refine wp_cond_split rfl (fun hc64 => ?_) (fun hc64 => ?_)
    ·
     (try simp only [cnd] at hc64)
     refine wp_skip ?_
     refine hK61 _ _ ?_
     (try clear hK61 K61)
     refine wp_seq_k ?_
     intro K65 hK65
     refine wp_block ?_
     refine wrt [.p 0, .p 1, .p 2, .p 3, .e 4] ?_
     refine pm (pm ?_);simp only [nf]
     refine pp rfl rfl (pr_bin rfl rfl (by first | exact bin_add_n (n := 4) (by omega) | exact bin_add_i (by omega) (by omega))) ?_;simp only [nf]
     refine pp rfl rfl (pr_slice_arr_lh1 rfl rfl rfl Tryd.underlying87 sz5 (by omega) (by omega) (by omega)) ?_;simp only [nf]
     (try simp only [Nat.mul_one, Nat.zero_add, Nat.add_sub_cancel_left])
     refine plan_calle rfl rfl hH cf75 (fun w' hH => column_calls _ _ _ _ _ _ (by omega) w' (hH.blk 3 rfl)) rfl ?_
     clear hH
     intro w66 v67 w68 hH hp69
     obtain ⟨rfl, hg, hbk⟩ := hp69
     replace hH := hH.callw 3 rfl hg hbk
     clear hg hbk
     (try simp only [nf, nh, Value.cells] at hH ⊢)
     refine plan_nil hH ?_
     clear hH
     intro w70 hH
     refine hK65 _ _ ?_
     (try clear hK65 K65)
     refine wrt [.p 0, .p 1, .p 2] ?_
     refine pm ?_;simp only [nf]
     refine pp rfl rfl (pr_bin rfl rfl (by first | exact bin_add_n (n := 4) (by omega) | exact bin_add_i (by omega) (by omega))) ?_;simp only [nf]
     refine pa ?_;simp only [nf]
     refine plan_nil hH ?_
     clear hH
     intro w71 hH
     (try simp only [Exit.then, Exit.inBlock, ↓reduceIte, Nat.reduceEqDiff])
     refine ⟨4 - (j + 1), ?_, _, rfl, by kernel_rfl, ?_⟩
     · first | omega | (omega)
     simp only [ga]
     refine ⟨j + 1, rfl, ?_, rfl, ?_⟩
     ·
      exact hH
     · first | omega | (omega)
    ·
     (try simp only [cnd] at hc64)
     refine wp_exit ?_
     (try simp only [Exit.then, Exit.inBlock, ↓reduceIte, Nat.reduceEqDiff])
     refine hK49 _ _ ?_
     (try clear hK49 K49)
     refine wrp [.p 1, .p 2, .p 3, .p 4, .p 5, .q 0, .q 6, .q 7, .e 8] ?_
     refine pm (pm ?_);simp only [nf]
     refine pp rfl rfl (pr_nilCheck rfl) ?_;simp only [nf]
     refine pp rfl rfl (pr_fieldAddr 0 rfl Tryd.underlying109 rfl rfl sz107) ?_;simp only [nf]
     refine pp rfl rfl (pr_idxA rfl rfl Tryd.underlying107 sz87 (by omega)) ?_;simp only [nf]
     refine pq rfl rfl (qr_loadW rfl (hH.blk 3 rfl) Tryd.underlying87 rfl sz87 (by simp)) ?_;simp only [nf]
     refine pq rfl rfl (qr_load8 rfl (hH.chg.nil_blk hc) Tryd.underlying87 rfl sz87 (by omega)) ?_;simp only [nf]
     refine pq rfl rfl (qr_call cf74 (fun w' hw => mix_calls _ _ w') rfl) ?_;simp only [nf]
     refine plan_storeW 2 rfl rfl hH rfl rfl rfl one_arr8 sz87 (by simp) (by simp) ?_
     clear hH
     intro w72 hH
     (try simp only [nf, nh, Value.cells] at hH ⊢)
     refine plan_nil hH ?_
     clear hH
     intro w73 hH
     refine hK25 _ _ ?_
     (try clear hK25 K25)
     refine wrt [.p 0, .p 1, .p 2] ?_
     refine pm ?_;simp only [nf]
     refine pp rfl rfl (pr_bin rfl rfl (by first | exact bin_add_n (n := 1) (by omega) | exact bin_add_i (by omega) (by omega))) ?_;simp only [nf]
     refine pa ?_;simp only [nf]
     refine plan_nil hH ?_
     clear hH
     intro w74 hH
     (try simp only [Exit.then, Exit.inBlock, ↓reduceIte, Nat.reduceEqDiff])
     refine ⟨10 - (k + 1), ?_, _, rfl, by kernel_rfl, ?_⟩
     · first | omega | (omega)
     simp only [ga]
     refine ⟨k + 1, rfl, ?_, rfl, ?_⟩
     ·
      obtain rfl : j = 4 := by omega
      exact (hH.take 3).say 2 rfl (arr8_congr fun i hi => by rw [aesR_succ]; rw [if_pos (by omega)])
     · first | omega | (omega)
   ·
    (try simp only [cnd] at hc52)
    refine wp_skip ?_
    refine hK49 _ _ ?_
    (try clear hK49 K49)
    refine wrp [.p 1, .p 2, .p 3, .p 4, .p 5, .q 0, .q 6, .q 7, .e 8] ?_
    refine pm (pm ?_);simp only [nf]
    refine pp rfl rfl (pr_nilCheck rfl) ?_;simp only [nf]
    refine pp rfl rfl (pr_fieldAddr 0 rfl Tryd.underlying109 rfl rfl sz107) ?_;simp only [nf]
    refine pp rfl rfl (pr_idxA rfl rfl Tryd.underlying107 sz87 (by omega)) ?_;simp only [nf]
    refine pq rfl rfl (qr_loadW rfl (hH.blk 3 rfl) Tryd.underlying87 rfl sz87 (by simp)) ?_;simp only [nf]
    refine pq rfl rfl (qr_load8 rfl (hH.chg.nil_blk hc) Tryd.underlying87 rfl sz87 (by omega)) ?_;simp only [nf]
    refine pq rfl rfl (qr_call cf74 (fun w' hw => mix_calls _ _ w') rfl) ?_;simp only [nf]
    refine plan_storeW 2 rfl rfl hH rfl rfl rfl one_arr8 sz87 (by simp) (by simp) ?_
    clear hH
    intro w75 hH
    (try simp only [nf, nh, Value.cells] at hH ⊢)
    refine plan_nil hH ?_
    clear hH
    intro w76 hH
    refine hK25 _ _ ?_
    (try clear hK25 K25)
    refine wrt [.p 0, .p 1, .p 2] ?_
    refine pm ?_;simp only [nf]
    refine pp rfl rfl (pr_bin rfl rfl (by first | exact bin_add_n (n := 1) (by omega) | exact bin_add_i (by omega) (by omega))) ?_;simp only [nf]
    refine pa ?_;simp only [nf]
    refine plan_nil hH ?_
    clear hH
    intro w77 hH
    (try simp only [Exit.then, Exit.inBlock, ↓reduceIte, Nat.reduceEqDiff])
    refine ⟨10 - (k + 1), ?_, _, rfl, by kernel_rfl, ?_⟩
    · first | omega | (omega)
    simp only [ga]
    refine ⟨k + 1, rfl, ?_, rfl, ?_⟩
    ·
     exact (hH.take 3).say 2 rfl (arr8_congr fun i hi => by rw [aesR_succ]; rw [if_neg (by omega : ¬ k + 1 < 10), if_pos (by omega : i < j)])
    · first | omega | (omega)
 ·
  (try simp only [cnd] at hc24)
  refine wp_exit ?_
  (try simp only [Exit.then, Exit.inBlock, ↓reduceIte, Nat.reduceEqDiff])
  refine hK12 _ _ ?_
  (try clear hK12 K12)
  refine wp_seq_k ?_
  intro K78 hK78
  refine wrt [.q 0, .e 1] ?_
  refine pq rfl rfl (qr_loadW rfl (hH.blk 2 rfl) Tryd.underlying87 rfl sz87 (by simp)) ?_;simp only [nf]
  refine plan_storeW 1 rfl rfl hH rfl rfl rfl one_arr8 sz87 (by simp) (by simp) ?_
  clear hH
  intro w79 hH
  (try simp only [nf, nh, Value.cells] at hH ⊢)
  refine plan_nil hH ?_
  clear hH
  intro w80 hH
  refine hK78 _ _ ?_
  (try clear hK78 K78)
  refine wp_ret ?_
  (try simp only [Exit.then, Exit.inBlock, ↓reduceIte, Nat.reduceEqDiff])
  refine BP.retc rfl rfl (hH.blk 1 rfl) Tryd.underlying87 rfl sz87 (by simp) ?_
  obtain rfl : k = 10 := by omega
  exact ⟨rfl, hH.chg⟩

end Go.Proofs.YtmoaddicejohgaaDoor
