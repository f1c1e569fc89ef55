/- Walks of aes: Stream, where it answers and where it refuses. No further conditions. -/
import Derived.Test.YtmoaddicejohgaaDoorAes2
set_option linter.unusedSimpArgs false
set_option linter.unusedVariables false
set_option maxRecDepth 100000
set_option maxHeartbeats 4000000
namespace Go.Proofs.YtmoaddicejohgaaDoor
open Go
open List (getD_cons_zero getD_cons_succ set_cons_zero set_cons_succ)

/-- The number that a counter ends in. -/
def be32 (c : Nat → UInt8) : UInt32 := (c 12).toUInt32 <<< 24 ||| (c 13).toUInt32 <<< 16 ||| (c 14).toUInt32 <<< 8 ||| (c 15).toUInt32
/-- A counter with its number replaced. -/
def ctrF (c : Nat → UInt8) (n : UInt32) (i : Nat) : UInt8 :=
  if i = 12 then (n >>> 24).toUInt8 else if i = 13 then (n >>> 16).toUInt8 else if i = 14 then (n >>> 8).toUInt8 else if i = 15 then n.toUInt8 else c i
/-- The stream's byte at a place. -/
def ksF (kf c : Nat → UInt8) (p : Nat) : UInt8 := aesR kf (ctrF c (be32 c + UInt32.ofNat (p / 16))) 10 (p % 16)
def strm (kf c : Nat → UInt8) (a : Nat) (l : List UInt8) (n : Nat) : List UInt8 := (List.range n).map fun i => l.getD i 0 ^^^ ksF kf c (a + i)
theorem strm_succ (kf c : Nat → UInt8) (a : Nat) (l : List UInt8) (n : Nat) : strm kf c a l (n + 1) = strm kf c a l n ++ [l.getD n 0 ^^^ ksF kf c (a + n)] := by
  unfold strm; rw [List.range_succ, List.map_append]; rfl
theorem ctr_set (c e : Nat → UInt8) (n : UInt32) (he : ∀ i, i < 12 → e i = c i) : arr8 16 (upd (upd (upd (upd e 12 (n >>> 24).toUInt8) 13 (n >>> 16).toUInt8) 14 (n >>> 8).toUInt8) 15 n.toUInt8) = arr8 16 (ctrF c n) := arr8_congr fun i hi => by
  have h : i < 12 ∨ i = 12 ∨ i = 13 ∨ i = 14 ∨ i = 15 := by omega
  rcases h with h | rfl | rfl | rfl | rfl
  · simp only [upd, ctrF]
    rw [if_neg (by omega), if_neg (by omega), if_neg (by omega), if_neg (by omega), if_neg (by omega), if_neg (by omega), if_neg (by omega), if_neg (by omega), he i h]
  all_goals rfl
theorem ctr_head (c : Nat → UInt8) (n : UInt32) : ∀ i, i < 12 → ctrF c n i = c i := fun i h => by
  unfold ctrF
  rw [if_neg (by omega), if_neg (by omega), if_neg (by omega), if_neg (by omega)]
theorem strm_step {kf c : Nat → UInt8} {a p m j K : Nat} {n : UInt32} {l : List UInt8} (h : p < l.length → m = (a + p) % 16 ∧ n = be32 c + UInt32.ofNat ((a + p) / 16)) (hK : K ≤ 16 - m) (hK' : K ≤ (l.drop p).length) (hj : j < ((l.drop p).take K).length) :
    strm kf c a l (p + j) ++ [((l.drop p).take K).getD j 0 ^^^ aesR kf (ctrF c n) 10 (m + j)] = strm kf c a l (p + (j + 1)) := by
  rw [← Nat.add_assoc, strm_succ]
  simp only [List.length_take, List.length_drop] at hj hK'
  obtain ⟨rfl, rfl⟩ := h (by omega)
  have e : ((l.drop p).take K).getD j 0 = l.getD (p + j) 0 := by
    simp only [List.getD, List.getElem?_take, List.getElem?_drop]
    rw [if_pos (by omega)]
  unfold ksF
  rw [e, show (a + (p + j)) / 16 = (a + p) / 16 by omega, show (a + (p + j)) % 16 = (a + p) % 16 + j by omega]
theorem strm_next {c : Nat → UInt8} {a p m K : Nat} {n : UInt32} {l : List UInt8} (h : p < l.length → m = (a + p) % 16 ∧ n = be32 c + UInt32.ofNat ((a + p) / 16)) (hK : K = min (16 - m) (l.drop p).length) (hm : m < 16) (h' : p + K < l.length) :
    0 = (a + (p + K)) % 16 ∧ n + 1 = be32 c + UInt32.ofNat ((a + (p + K)) / 16) := by
  rw [List.length_drop] at hK
  obtain ⟨rfl, rfl⟩ := h (by omega)
  refine ⟨by omega, ?_⟩
  rw [show (a + (p + K)) / 16 = (a + p) / 16 + 1 by omega, UInt32.add_assoc, UInt32.ofNat_add]; rfl

theorem stream_nil (c : Value) (a : Value) (b : Value) (w : World) :
    Ret Tryd.prog 45 #[.pointer none, c, a, b] w fun v w' => v = .tuple #[.slice none 0 0, I64 (1 : Nat)] ∧ Chg [] w w' := by
 refine Ret.enter Tryd.func45 rfl ?_
 simp only [Tryd.ntmps45, fe, Nat.reduceAdd, Nat.reduceSub]
 have hH := Hp.start [] w
 refine wp_seq_k ?_
 intro K1 hK1
 refine wrt [.p 0, .p 1] ?_
 refine pa (pka 0 ?_);simp only [nf]
 refine plan_nil hH ?_
 clear hH
 intro w2 hH
 refine hK1 _ _ ?_
 (try clear hK1 K1)
 refine wp_seq_k ?_
 intro K3 hK3
 refine wp_seq_k ?_
 intro K4 hK4
 refine wrt [.p 0, .p 1, .p 2, .p 3, .p 4, .p 5, .p 6, .p 7, .p 8, .p 9, .p 10] ?_
 refine pm ?_;simp only [nf]
 refine pp rfl rfl (pr_bin rfl rfl (bin_eql_pn Tryd.underlying80)) ?_;simp only [nf]
 refine plan_p (v := BV true) rfl rfl (pr_move_v rfl) ?_
 (try simp only [nf])
 refine plan_ps rfl rfl ?_
 (try simp only [nf])
 refine plan_ps rfl rfl ?_
 (try simp only [nf])
 refine plan_ps rfl rfl ?_
 (try simp only [nf])
 refine pp rfl rfl (pr_pick_t rfl) ?_;simp only [nf]
 refine plan_p (v := BV true) rfl rfl (pr_move_v rfl) ?_
 (try simp only [nf])
 refine plan_ps rfl rfl ?_
 (try simp only [nf])
 refine plan_ps rfl rfl ?_
 (try simp only [nf])
 refine pp rfl rfl (pr_pick_t rfl) ?_;simp only [nf]
 refine plan_nil hH ?_
 clear hH
 intro w5 hH
 refine hK4 _ _ ?_
 (try clear hK4 K4)
 refine wp_cond_true rfl ?_
 refine wp_seq_k ?_
 intro K6 hK6
 refine wrt [.p 0, .p 1] ?_
 refine pa (pka 1 ?_);simp only [nf]
 refine plan_nil hH ?_
 clear hH
 intro w7 hH
 refine hK6 _ _ ?_
 (try clear hK6 K6)
 refine wp_ret ?_
 (try simp only [Exit.then, Exit.inBlock, ↓reduceIte, Nat.reduceEqDiff])
 refine BP.ret2 rfl rfl rfl ?_
 exact ⟨rfl, hH.chg⟩

theorem stream_len (bc : Nat) (c : Value) (a : Value) (b : Value) (l : List UInt8) (w : World) (hb : Sl w c l) (hl : l.length ≠ 16) :
    Ret Tryd.prog 45 #[PT bc 0, c, a, b] w fun v w' => v = .tuple #[.slice none 0 0, I64 (1 : Nat)] ∧ Chg [] w w' := by
 refine Ret.enter Tryd.func45 rfl ?_
 simp only [Tryd.ntmps45, fe, Nat.reduceAdd, Nat.reduceSub]
 have hH := Hp.start [] w
 refine wp_seq_k ?_
 intro K1 hK1
 refine wrt [.p 0, .p 1] ?_
 refine pa (pka 0 ?_);simp only [nf]
 refine plan_nil hH ?_
 clear hH
 intro w2 hH
 refine hK1 _ _ ?_
 (try clear hK1 K1)
 refine wp_seq_k ?_
 intro K3 hK3
 refine wp_seq_k ?_
 intro K4 hK4
 refine wrt [.p 0, .p 1, .p 2, .p 3, .p 4, .p 5, .p 6, .p 7, .p 8, .p 9, .p 10] ?_
 refine pm ?_;simp only [nf]
 refine pp rfl rfl (pr_bin rfl rfl (bin_eql_pn Tryd.underlying80)) ?_;simp only [nf]
 refine plan_p (v := BV false) rfl rfl (pr_move_v rfl) ?_
 (try simp only [nf])
 refine pp rfl rfl pr_move ?_;simp only [nf]
 refine pp rfl rfl (pr_len_Sl (hb.chg hH.chg) rfl Tryd.underlying22) ?_;simp only [nf]
 refine pp rfl rfl (pr_bin rfl rfl (by first | exact bin_neq_n (n := 16)  | exact bin_neq_i)) ?_;simp only [nf]
 refine pp rfl rfl (pr_pick_f rfl) ?_;simp only [nf]
 refine plan_p (v := BV true) rfl rfl (pr_move_v (by show BV _ = _; rw [bne_iff_ne.mpr hl])) ?_
 (try simp only [nf])
 refine plan_ps rfl rfl ?_
 (try simp only [nf])
 refine plan_ps rfl rfl ?_
 (try simp only [nf])
 refine pp rfl rfl (pr_pick_t rfl) ?_;simp only [nf]
 refine plan_nil hH ?_
 clear hH
 intro w5 hH
 refine hK4 _ _ ?_
 (try clear hK4 K4)
 refine wp_cond_true rfl ?_
 refine wp_seq_k ?_
 intro K6 hK6
 refine wrt [.p 0, .p 1] ?_
 refine pa (pka 1 ?_);simp only [nf]
 refine plan_nil hH ?_
 clear hH
 intro w7 hH
 refine hK6 _ _ ?_
 (try clear hK6 K6)
 refine wp_ret ?_
 (try simp only [Exit.then, Exit.inBlock, ↓reduceIte, Nat.reduceEqDiff])
 refine BP.ret2 rfl rfl rfl ?_
 exact ⟨rfl, hH.chg⟩

theorem stream_neg (bc : Nat) (c : Value) (a : Int) (b : Value) (l : List UInt8) (w : World) (hb : Sl w c l) (hl : l.length = 16) (ha : a < 0) :
    Ret Tryd.prog 45 #[PT bc 0, c, I64 a, b] w fun v w' => v = .tuple #[.slice none 0 0, I64 (1 : Nat)] ∧ Chg [] w w' := by
 refine Ret.enter Tryd.func45 rfl ?_
 simp only [Tryd.ntmps45, fe, Nat.reduceAdd, Nat.reduceSub]
 have hH := Hp.start [] w
 refine wp_seq_k ?_
 intro K1 hK1
 refine wrt [.p 0, .p 1] ?_
 refine pa (pka 0 ?_);simp only [nf]
 refine plan_nil hH ?_
 clear hH
 intro w2 hH
 refine hK1 _ _ ?_
 (try clear hK1 K1)
 refine wp_seq_k ?_
 intro K3 hK3
 refine wp_seq_k ?_
 intro K4 hK4
 refine wrt [.p 0, .p 1, .p 2, .p 3, .p 4, .p 5, .p 6, .p 7, .p 8, .p 9, .p 10] ?_
 refine pm ?_;simp only [nf]
 refine pp rfl rfl (pr_bin rfl rfl (bin_eql_pn Tryd.underlying80)) ?_;simp only [nf]
 refine plan_p (v := BV false) rfl rfl (pr_move_v rfl) ?_
 (try simp only [nf])
 refine pp rfl rfl pr_move ?_;simp only [nf]
 refine pp rfl rfl (pr_len_Sl (hb.chg hH.chg) rfl Tryd.underlying22) ?_;simp only [nf]
 refine pp rfl rfl (pr_bin rfl rfl (by first | exact bin_neq_n (n := 16)  | exact bin_neq_i)) ?_;simp only [nf]
 refine pp rfl rfl (pr_pick_f rfl) ?_;simp only [nf]
 refine plan_p (v := BV false) rfl rfl (pr_move_v (by show BV _ = _; rw [hl]; rfl)) ?_
 (try simp only [nf])
 refine pp rfl rfl pr_move ?_;simp only [nf]
 refine pp rfl rfl (pr_bin rfl rfl (by first | exact bin_lss_n (n := 0)  | exact bin_lss_i)) ?_;simp only [nf]
 refine pp rfl rfl (pr_pick_f rfl) ?_;simp only [nf]
 refine plan_nil hH ?_
 clear hH
 intro w5 hH
 refine hK4 _ _ ?_
 (try clear hK4 K4)
 refine wp_cond_true (by show BV _ = _; exact congrArg BV (decide_eq_true ha)) ?_
 refine wp_seq_k ?_
 intro K6 hK6
 refine wrt [.p 0, .p 1] ?_
 refine pa (pka 1 ?_);simp only [nf]
 refine plan_nil hH ?_
 clear hH
 intro w7 hH
 refine hK6 _ _ ?_
 (try clear hK6 K6)
 refine wp_ret ?_
 (try simp only [Exit.then, Exit.inBlock, ↓reduceIte, Nat.reduceEqDiff])
 refine BP.ret2 rfl rfl rfl ?_
 exact ⟨rfl, hH.chg⟩

theorem stream_calls (bc : Nat) (kf cf : Nat → UInt8) (c : Value) (cl : List UInt8) (a : Nat) (b : Value) (l : List UInt8) (w : World) (hc : Blk w bc 109 (arr8 176 kf)) (hcl : Sl w c cl) (hl : cl.length = 16) (hcf : ∀ i, i < 16 → cl.getD i 0 = cf i) (hb : Sl w b l) (ha : a < 9223372036854775808) (hbl : l.length ≤ 140737488355328) :
    Ret Tryd.prog 45 #[PT bc 0, c, I64 (a : Nat), b] w fun v w' => ∃ o cap cs, v = .tuple #[own o l.length cap, I64 (0 : Nat)] ∧ Chg [] w w' ∧ OwnC o l.length cap 1 cs ((strm kf cf a l l.length).map V8) ∧ ∀ bo, o = some bo → w.heap.size ≤ bo ∧ Blk w' bo 5 cs := by
 refine Ret.enter Tryd.func45 rfl ?_
 simp only [Tryd.ntmps45, fe, Nat.reduceAdd, Nat.reduceSub]
 have hH := Hp.start [] w
 refine wp_seq_k ?_
 intro K1 hK1
 refine wrt [.p 0, .p 1] ?_
 refine pa (pka 0 ?_);simp only [nf]
 refine plan_nil hH ?_
 clear hH
 intro w2 hH
 refine hK1 _ _ ?_
 (try clear hK1 K1)
 refine wp_seq_k ?_
 intro K3 hK3
 refine wp_seq_k ?_
 intro K4 hK4
 refine wrt [.p 0, .p 1, .p 2, .p 3, .p 4, .p 5, .p 6, .p 7, .p 8, .p 9, .p 10] ?_
 refine pm ?_;simp only [nf]
 refine pp rfl rfl (pr_bin rfl rfl (bin_eql_pn Tryd.underlying80)) ?_;simp only [nf]
 refine plan_p (v := BV false) rfl rfl (pr_move_v rfl) ?_
 (try simp only [nf])
 refine pp rfl rfl pr_move ?_;simp only [nf]
 refine pp rfl rfl (pr_len_Sl (hcl.chg hH.chg) rfl Tryd.underlying22) ?_;simp only [nf]
 refine pp rfl rfl (pr_bin rfl rfl (by first | exact bin_neq_n (n := 16)  | exact bin_neq_i)) ?_;simp only [nf]
 refine pp rfl rfl (pr_pick_f rfl) ?_;simp only [nf]
 refine plan_p (v := BV false) rfl rfl (pr_move_v (by show BV _ = _; rw [hl]; rfl)) ?_
 (try simp only [nf])
 refine pp rfl rfl pr_move ?_;simp only [nf]
 refine pp rfl rfl (pr_bin rfl rfl (by first | exact bin_lss_n (n := 0)  | exact bin_lss_i)) ?_;simp only [nf]
 refine pp rfl rfl (pr_pick_f rfl) ?_;simp only [nf]
 refine plan_nil hH ?_
 clear hH
 intro w5 hH
 refine hK4 _ _ ?_
 (try clear hK4 K4)
 refine wp_cond_false (by show BV _ = _; exact congrArg BV (decide_eq_false (by omega))) ?_
 refine wp_skip ?_
 refine hK3 _ _ ?_
 (try clear hK3 K3)
 refine wp_seq_k ?_
 intro K6 hK6
 refine wrt [.p 0, .p 1, .q 2, .x 3, .e 4] ?_
 refine pm ?_;simp only [nf]
 refine pp rfl rfl (pr_s2ap_Sl (hcl.chg hH.chg) rfl Tryd.underlying87 (by decide) (by first | omega | (simp only [List.length_take, List.length_drop, List.length_cons, List.length_nil] at *; omega))) ?_;simp only [nf]
 refine pq rfl rfl (qr_load_Sl (hcl.chg hH.chg) rfl Tryd.underlying87 rfl sz87 (by first | omega | (simp only [List.length_take, List.length_drop, List.length_cons, List.length_nil] at *; omega))) ?_;simp only [nf]
 refine plan_alloc rfl rfl hH zc87 ?_
 clear hH
 intro b7 w8 hH
 (try simp only [nf, nh, Value.cells] at hH ⊢)
 refine plan_storeW 0 rfl rfl hH rfl rfl rfl one_arr8 sz87 (by simp) (by simp) ?_
 clear hH
 intro w9 hH
 (try simp only [nf, nh, Value.cells] at hH ⊢)
 refine plan_nil hH ?_
 clear hH
 intro w10 hH
 refine hK6 _ _ ?_
 (try clear hK6 K6)
 refine wp_seq_k ?_
 intro K11 hK11
 refine wrt [.p 0, .q 1, .p 2, .p 3, .p 4, .q 5, .p 6, .p 7, .p 8, .p 9, .q 10, .p 11, .p 12, .p 13, .p 14, .q 15, .p 16, .p 17, .p 18] ?_
 refine pp rfl rfl (pr_idxA1 (i := 12) rfl rfl Tryd.underlying87 sz5 (by first | omega | (simp only [List.length_take, List.length_drop, List.length_cons, List.length_nil] at *; omega))) ?_;simp only [nf]
 refine pq rfl rfl (qr_load1 rfl Tryd.underlying5 rfl ((hH.blk 0 rfl).cell (arr8_get (by first | omega | (simp only [List.length_take, List.length_drop, List.length_cons, List.length_nil] at *; omega))))) ?_;simp only [nf]
 refine pp rfl rfl (pr_conv rfl (cnv_u8_u32 _ Tryd.underlying5 Tryd.underlying113)) ?_;simp only [nf]
 refine pp rfl rfl (pr_bin rfl rfl (bin_shlc_u32 24 24 (by decide) rfl _)) ?_;simp only [nf]
 refine pp rfl rfl (pr_idxA1 (i := 13) rfl rfl Tryd.underlying87 sz5 (by first | omega | (simp only [List.length_take, List.length_drop, List.length_cons, List.length_nil] at *; omega))) ?_;simp only [nf]
 refine pq rfl rfl (qr_load1 rfl Tryd.underlying5 rfl ((hH.blk 0 rfl).cell (arr8_get (by first | omega | (simp only [List.length_take, List.length_drop, List.length_cons, List.length_nil] at *; omega))))) ?_;simp only [nf]
 refine pp rfl rfl (pr_conv rfl (cnv_u8_u32 _ Tryd.underlying5 Tryd.underlying113)) ?_;simp only [nf]
 refine pp rfl rfl (pr_bin rfl rfl (bin_shlc_u32 16 16 (by decide) rfl _)) ?_;simp only [nf]
 refine pp rfl rfl (pr_bin rfl rfl (bin_or_u32 _ _)) ?_;simp only [nf]
 refine pp rfl rfl (pr_idxA1 (i := 14) rfl rfl Tryd.underlying87 sz5 (by first | omega | (simp only [List.length_take, List.length_drop, List.length_cons, List.length_nil] at *; omega))) ?_;simp only [nf]
 refine pq rfl rfl (qr_load1 rfl Tryd.underlying5 rfl ((hH.blk 0 rfl).cell (arr8_get (by first | omega | (simp only [List.length_take, List.length_drop, List.length_cons, List.length_nil] at *; omega))))) ?_;simp only [nf]
 refine pp rfl rfl (pr_conv rfl (cnv_u8_u32 _ Tryd.underlying5 Tryd.underlying113)) ?_;simp only [nf]
 refine pp rfl rfl (pr_bin rfl rfl (bin_shlc_u32 8 8 (by decide) rfl _)) ?_;simp only [nf]
 refine pp rfl rfl (pr_bin rfl rfl (bin_or_u32 _ _)) ?_;simp only [nf]
 refine pp rfl rfl (pr_idxA1 (i := 15) rfl rfl Tryd.underlying87 sz5 (by first | omega | (simp only [List.length_take, List.length_drop, List.length_cons, List.length_nil] at *; omega))) ?_;simp only [nf]
 refine pq rfl rfl (qr_load1 rfl Tryd.underlying5 rfl ((hH.blk 0 rfl).cell (arr8_get (by first | omega | (simp only [List.length_take, List.length_drop, List.length_cons, List.length_nil] at *; omega))))) ?_;simp only [nf]
 refine pp rfl rfl (pr_conv rfl (cnv_u8_u32 _ Tryd.underlying5 Tryd.underlying113)) ?_;simp only [nf]
 refine pp rfl rfl (pr_bin rfl rfl (bin_or_u32 _ _)) ?_;simp only [nf]
 refine pa ?_;simp only [nf]
 refine plan_nil hH ?_
 clear hH
 intro w12 hH
 refine hK11 _ _ ?_
 (try clear hK11 K11)
 refine wp_seq_k ?_
 intro K13 hK13
 refine wrt [.p 0, .p 1, .p 2, .p 3, .p 4, .p 5] ?_
 refine pm (pm ?_);simp only [nf]
 refine pp rfl rfl (pr_bin rfl rfl (by first | exact bin_quo_n (n := 16) (by first | omega | (simp only [List.length_take, List.length_drop, List.length_cons, List.length_nil] at *; omega)) (by first | omega | (simp only [List.length_take, List.length_drop, List.length_cons, List.length_nil] at *; omega)))) ?_;simp only [nf]
 refine pp rfl rfl (pr_conv rfl (by first | exact cnv_n_u32 Tryd.underlying3 Tryd.underlying113 | exact cnv_i_u32 Tryd.underlying3 Tryd.underlying113)) ?_;simp only [nf]
 refine pp rfl rfl (pr_bin rfl rfl (bin_add_u32 _ _)) ?_;simp only [nf]
 refine pa ?_;simp only [nf]
 refine plan_nil hH ?_
 clear hH
 intro w14 hH
 refine hK13 _ _ ?_
 (try clear hK13 K13)
 refine wp_seq_k ?_
 intro K15 hK15
 refine wrt [.p 0, .p 1, .p 2] ?_
 refine pm ?_;simp only [nf]
 refine pp rfl rfl (pr_bin rfl rfl (by first | exact bin_rem_n (n := 16) (by first | omega | (simp only [List.length_take, List.length_drop, List.length_cons, List.length_nil] at *; omega)))) ?_;simp only [nf]
 refine pa ?_;simp only [nf]
 refine plan_nil hH ?_
 clear hH
 intro w16 hH
 refine hK15 _ _ ?_
 (try clear hK15 K15)
 refine wp_seq_k ?_
 intro K17 hK17
 refine wrt [.p 0, .p 1, .x 2, .p 3] ?_
 refine pm ?_;simp only [nf]
 refine pp rfl rfl (pr_len_Sl (hb.chg hH.chg) rfl Tryd.underlying22) ?_;simp only [nf]
 refine plan_make (n := 0) rfl rfl hH rfl rfl Tryd.underlying22 sz5 bz5 ze5 rfl (by first | omega | (simp only [List.length_take, List.length_drop, List.length_cons, List.length_nil] at *; omega)) (by first | omega | (simp only [List.length_take, List.length_drop, List.length_cons, List.length_nil] at *; omega)) (by first | omega | (simp only [List.length_take, List.length_drop, List.length_cons, List.length_nil] at *; omega)) ?_
 clear hH
 intro b18 w19 hH
 (try simp only [nf] at hH ⊢)
 rw [made_arr8] at hH
 (try simp only [nf, nh, Value.cells] at hH ⊢)
 refine pa ?_;simp only [nf]
 refine plan_nil hH ?_
 clear hH
 intro w20 hH
 refine hK17 _ _ ?_
 (try clear hK17 K17)
 refine wp_seq_k ?_
 intro K21 hK21
 refine wp_block ?_
 refine wp_loopT [2, 3, 11, 12] [13, 14, 15, 16, 59, 60, 61, 62, 63, 64, 65, 66, 67, 68, 69, 70, 71, 72, 73, 74, 75, 76, 77, 78, 79, 80, 81, 82, 83, 84, 85, 86, 87, 88, 89, 90, 91, 92, 93, 94, 95, 96, 97, 98, 99, 100, 101, 102, 103, 104, 105, 106, 107, 108, 109] (fun (n22 : Nat) (vs : List Value) (w' : World) => ∃ (p m : Nat) (n : UInt32) (e : Nat → UInt8) (bv : Value) (o : Option Nat) (cap : Nat) (cs : Array Value), vs = [I64 (m : Nat), bv, V32 n, own o p cap] ∧ Hp [] w w' [(some b7, 87, arr8 16 e), (o, 5, cs)] ∧ n22 = l.length - p ∧ p ≤ l.length ∧ m < 16 ∧ Sl w bv (l.drop p) ∧ OwnC o p cap 1 cs ((strm kf cf a l p).map V8) ∧ (p < l.length → m = (a + p) % 16 ∧ n = be32 cf + UInt32.ofNat ((a + p) / 16)) ∧ (∀ i, i < 12 → e i = cf i)) (l.length - 0) (by kernel_rfl) ?_ ?_
 ·
  simp only [ga]
  refine ⟨0, _, _, fun i => cl.getD i 0, _, _, _, arr8 l.length fun _ => 0, rfl, ?_, rfl, ?_, ?_, ?_, ?_, ?_, ?_⟩
  ·
   exact hH
  · first | omega | (omega)
  · first | omega | (omega)
  · first | omega | (exact hb)
  · first | omega | (exact OwnC.made0 (by simp))
  · first | omega | (intro _; unfold be32; rw [← hcf 12 (by omega), ← hcf 13 (by omega), ← hcf 14 (by omega), ← hcf 15 (by omega)]; exact ⟨rfl, rfl⟩)
  · first | omega | (exact fun i hi => hcf i (by omega))
 clear hH
 intro n22 vs23 w24 hR25 d0
 obtain ⟨p, m, n, e, bv, o, cap, cs, rfl, hH, hn26, hf27, hf28, hbv, hO, hpn, he⟩ := hR25
 simp only [putAll, putD, List.set_cons_zero, List.set_cons_succ, Nat.zero_add, Nat.reduceAdd]
 refine wp_seq_k ?_
 intro K29 hK29
 refine wp_seq_k ?_
 intro K30 hK30
 refine wrt [.p 0, .p 1, .p 2] ?_
 refine pm ?_;simp only [nf]
 refine pp rfl rfl (pr_len_Sl (hbv.chg hH.chg) rfl Tryd.underlying22) ?_;simp only [nf]
 refine pp rfl rfl (pr_bin rfl rfl (by first | exact bin_gtr_n (n := 0)  | exact bin_gtr_i)) ?_;simp only [nf]
 refine plan_nil hH ?_
 clear hH
 intro w31 hH
 refine hK30 _ _ ?_
 (try clear hK30 K30)
 refine wp_cond_split rfl (fun hc32 => ?_) (fun hc32 => ?_)
 ·
  (try simp only [cnd] at hc32)
  refine wp_skip ?_
  refine hK29 _ _ ?_
  (try clear hK29 K29)
  refine wp_block ?_
  refine wp_seq_k ?_
  intro K33 hK33
  refine wrt [.p 0, .p 1, .p 2, .p 3, .p 4, .p 5, .p 6, .p 7, .p 8, .p 9, .p 10, .p 11, .e 12, .p 13, .e 14, .p 15, .e 16, .p 17, .e 18] ?_
  refine pm ?_;simp only [nf]
  refine pp rfl rfl (pr_bin rfl rfl (bin_shrc_u32 24 24 (by decide) rfl _)) ?_;simp only [nf]
  refine pp rfl rfl (pr_conv rfl (cnv_u32_u8 _ Tryd.underlying113 Tryd.underlying5)) ?_;simp only [nf]
  refine pm ?_;simp only [nf]
  refine pp rfl rfl (pr_bin rfl rfl (bin_shrc_u32 16 16 (by decide) rfl _)) ?_;simp only [nf]
  refine pp rfl rfl (pr_conv rfl (cnv_u32_u8 _ Tryd.underlying113 Tryd.underlying5)) ?_;simp only [nf]
  refine pm ?_;simp only [nf]
  refine pp rfl rfl (pr_bin rfl rfl (bin_shrc_u32 8 8 (by decide) rfl _)) ?_;simp only [nf]
  refine pp rfl rfl (pr_conv rfl (cnv_u32_u8 _ Tryd.underlying113 Tryd.underlying5)) ?_;simp only [nf]
  refine pm ?_;simp only [nf]
  refine pp rfl rfl (pr_conv rfl (cnv_u32_u8 _ Tryd.underlying113 Tryd.underlying5)) ?_;simp only [nf]
  refine pp rfl rfl (pr_idxA1 (i := 12) rfl rfl Tryd.underlying87 sz5 (by first | omega | (simp only [List.length_take, List.length_drop, List.length_cons, List.length_nil] at *; omega))) ?_;simp only [nf]
  refine plan_store1 0 rfl rfl hH rfl rfl rfl rfl sz5 (by simp <;> omega) ?_
  clear hH
  intro w34 hH
  (try simp only [nf, nh, Value.cells] at hH ⊢)
  refine pp rfl rfl (pr_idxA1 (i := 13) rfl rfl Tryd.underlying87 sz5 (by first | omega | (simp only [List.length_take, List.length_drop, List.length_cons, List.length_nil] at *; omega))) ?_;simp only [nf]
  refine plan_store1 0 rfl rfl hH rfl rfl rfl rfl sz5 (by simp <;> omega) ?_
  clear hH
  intro w35 hH
  (try simp only [nf, nh, Value.cells] at hH ⊢)
  refine pp rfl rfl (pr_idxA1 (i := 14) rfl rfl Tryd.underlying87 sz5 (by first | omega | (simp only [List.length_take, List.length_drop, List.length_cons, List.length_nil] at *; omega))) ?_;simp only [nf]
  refine plan_store1 0 rfl rfl hH rfl rfl rfl rfl sz5 (by simp <;> omega) ?_
  clear hH
  intro w36 hH
  (try simp only [nf, nh, Value.cells] at hH ⊢)
  refine pp rfl rfl (pr_idxA1 (i := 15) rfl rfl Tryd.underlying87 sz5 (by first | omega | (simp only [List.length_take, List.length_drop, List.length_cons, List.length_nil] at *; omega))) ?_;simp only [nf]
  refine plan_store1 0 rfl rfl hH rfl rfl rfl rfl sz5 (by simp <;> omega) ?_
  clear hH
  intro w37 hH
  (try simp only [nf, nh, Value.cells] at hH ⊢)
  refine plan_nil hH ?_
  clear hH
  intro w38 hH
  replace hH := hH.say 0 rfl (ctr_set cf e n he)
  simp only [List.set_cons_zero] at hH
  refine hK33 _ _ ?_
  (try clear hK33 K33)
  refine wp_seq_k ?_
  intro K39 hK39
  refine wrt [.p 0, .q 1, .q 2, .x 3, .e 4] ?_
  refine pm ?_;simp only [nf]
  refine pq rfl rfl (qr_loadW rfl (hH.blk 0 rfl) Tryd.underlying87 rfl sz87 (by simp)) ?_;simp only [nf]
  refine pq rfl rfl (qr_call cf62 (fun w' hw => turn_calls _ _ _ w' (hw.nil_blk (hH.chg.nil_blk hc))) rfl) ?_;simp only [nf]
  refine plan_alloc rfl rfl hH zc87 ?_
  clear hH
  intro b40 w41 hH
  (try simp only [nf, nh, Value.cells] at hH ⊢)
  refine plan_storeW 2 rfl rfl hH rfl rfl rfl one_arr8 sz87 (by simp) (by simp) ?_
  clear hH
  intro w42 hH
  (try simp only [nf, nh, Value.cells] at hH ⊢)
  refine plan_nil hH ?_
  clear hH
  intro w43 hH
  refine hK39 _ _ ?_
  (try clear hK39 K39)
  refine wp_seq_k ?_
  intro K44 hK44
  refine wrt [.p 0, .p 1, .p 2, .p 3, .p 4, .p 5] ?_
  refine pm ?_;simp only [nf]
  refine pp rfl rfl (pr_bin rfl rfl (by first | exact bin_sub_n (m := 16) (by first | omega | (simp only [List.length_take, List.length_drop, List.length_cons, List.length_nil] at *; omega)) (by first | omega | (simp only [List.length_take, List.length_drop, List.length_cons, List.length_nil] at *; omega)) | exact bin_sub_i (by first | omega | (simp only [List.length_take, List.length_drop, List.length_cons, List.length_nil] at *; omega)) (by first | omega | (simp only [List.length_take, List.length_drop, List.length_cons, List.length_nil] at *; omega)))) ?_;simp only [nf]
  refine pm ?_;simp only [nf]
  refine pp rfl rfl (pr_len_Sl (hbv.chg hH.chg) rfl Tryd.underlying22) ?_;simp only [nf]
  refine pp rfl rfl (by first | exact pr_min_n rfl rfl | exact pr_min rfl rfl) ?_;simp only [nf]
  refine pa ?_;simp only [nf]
  refine plan_nil hH ?_
  clear hH
  intro w45 hH
  refine hK44 _ _ ?_
  (try clear hK44 K44)
  refine wp_seq_k ?_
  intro K46 hK46
  refine wp_seq_k ?_
  intro K47 hK47
  refine wrt [.p 0, .p 1, .p 2, .p 3, .p 4] ?_
  refine pm (pm ?_);simp only [nf]
  refine pp rfl rfl (pr_slice_Sl_h (hbv.chg hH.chg) rfl rfl Tryd.underlying22 sz5 (by first | omega | (simp only [List.length_take, List.length_drop, List.length_cons, List.length_nil] at *; omega))) ?_;simp only [nf]
  refine pp rfl rfl (pr_len_Sl (Sl.cuth (hbv.chg hH.chg) (by first | omega | (simp only [List.length_take, List.length_drop, List.length_cons, List.length_nil] at *; omega))) rfl Tryd.underlying22) ?_;simp only [nf]
  refine pk 0 ?_;simp only [nf]
  refine plan_nil hH ?_
  clear hH
  intro w48 hH
  refine hK47 _ _ ?_
  (try clear hK47 K47)
  refine wp_block ?_
  refine wp_loopT [12, 89] [15, 16, 90, 91, 92, 93, 94, 95, 96, 97, 98, 99, 100, 101, 102, 103, 104] (fun (n49 : Nat) (vs : List Value) (w' : World) => ∃ (j : Nat) (o : Option Nat) (cap : Nat) (cs : Array Value), vs = [own o (p + j) cap, I64 (j : Nat)] ∧ Hp [] w w' [(some b7, 87, arr8 16 (ctrF cf n)), (o, 5, cs), (some b40, 87, arr8 16 (aesR kf (ctrF cf n) 10))] ∧ n49 = l.length - p - j ∧ j ≤ ((l.drop p).take (min (16 - m) (l.drop p).length)).length ∧ OwnC o (p + j) cap 1 cs ((strm kf cf a l (p + j)).map V8)) (l.length - p - 0) (by kernel_rfl) ?_ ?_
  ·
   simp only [ga]
   refine ⟨0, o, cap, cs, rfl, ?_, rfl, ?_, ?_⟩
   ·
    exact hH
   · first | omega | (omega)
   · first | omega | (exact hO)
  clear hH
  intro n49 vs50 w51 hR52 d1
  obtain ⟨j, o, cap, cs, rfl, hH, hn53, hf54, hO⟩ := hR52
  simp only [putAll, putD, List.set_cons_zero, List.set_cons_succ, Nat.zero_add, Nat.reduceAdd]
  refine wp_seq_k ?_
  intro K55 hK55
  refine wrt [.p 0] ?_
  refine pp rfl rfl (pr_bin rfl rfl (by first | exact bin_lss_n  | exact bin_lss_i)) ?_;simp only [nf]
  refine plan_nil hH ?_
  clear hH
  intro w56 hH
  refine hK55 _ _ ?_
  (try clear hK55 K55)
  refine wp_seq_k ?_
  intro K57 hK57
  refine wp_cond_split rfl (fun hc58 => ?_) (fun hc58 => ?_)
  ·
   (try simp only [cnd] at hc58)
   refine wp_skip ?_
   refine hK57 _ _ ?_
   (try clear hK57 K57)
   refine wp_seq_k ?_
   intro K59 hK59
   refine wp_block ?_
   refine wp_seq_k ?_
   intro K60 hK60
   refine wrt [.p 0, .p 1, .q 2, .p 3, .p 4] ?_
   refine pm ?_;simp only [nf]
   refine pp rfl rfl (pr_idx_Sl (Sl.cuth (hbv.chg hH.chg) (by first | omega | (simp only [List.length_take, List.length_drop, List.length_cons, List.length_nil] at *; omega))) rfl rfl Tryd.underlying22 sz5 (by first | omega | (simp only [List.length_take, List.length_drop, List.length_cons, List.length_nil] at *; omega))) ?_;simp only [nf]
   refine pq rfl rfl (qr_load1 rfl Tryd.underlying5 rfl (Sl.cell (Sl.cuth (hbv.chg hH.chg) (by first | omega | (simp only [List.length_take, List.length_drop, List.length_cons, List.length_nil] at *; omega))) (by first | omega | (simp only [List.length_take, List.length_drop, List.length_cons, List.length_nil] at *; omega)))) ?_;simp only [nf]
   refine pa (pa ?_);simp only [nf]
   refine plan_nil hH ?_
   clear hH
   intro w61 hH
   refine hK60 _ _ ?_
   (try clear hK60 K60)
   refine wrt [.p 0, .p 1, .p 2, .p 3, .p 4, .p 5, .q 6, .p 7, .x 8, .e 9, .p 10] ?_
   refine pm (pm (pm (pm ?_)));simp only [nf]
   refine pp rfl rfl (pr_bin rfl rfl (by first | exact bin_add_n (by first | omega | (simp only [List.length_take, List.length_drop, List.length_cons, List.length_nil] at *; omega)) | exact bin_add_i (by first | omega | (simp only [List.length_take, List.length_drop, List.length_cons, List.length_nil] at *; omega)) (by first | omega | (simp only [List.length_take, List.length_drop, List.length_cons, List.length_nil] at *; omega)))) ?_;simp only [nf]
   refine pp rfl rfl (pr_idxA1 rfl rfl Tryd.underlying87 sz5 (by first | omega | (simp only [List.length_take, List.length_drop, List.length_cons, List.length_nil] at *; omega))) ?_;simp only [nf]
   refine pq rfl rfl (qr_load1 rfl Tryd.underlying5 rfl ((hH.blk 2 rfl).cell (arr8_get (by first | omega | (simp only [List.length_take, List.length_drop, List.length_cons, List.length_nil] at *; omega))))) ?_;simp only [nf]
   refine pp rfl rfl (pr_bin rfl rfl (bin_xor_u8 _ _)) ?_;simp only [nf]
   refine plan_buildSlice rfl rfl hH Tryd.underlying22 (by rfl) (bs1 _) ?_
   clear hH
   intro b62 w63 hH
   (try simp only [nf, nh, Value.cells] at hH ⊢)
   refine plan_append 1 rfl rfl hH rfl hO (fun w' hH => ((OwnC.sl hH 3 rfl (OwnC.of_bytes rfl))).src) rfl rfl Tryd.underlying22 Tryd.underlying22 (.inl ⟨_, rfl⟩) sz5 bz5 ze5 rfl (by simp only [List.length_take, List.length_drop, List.length_cons, List.length_nil] at *; omega) (by simp only [List.length_take, List.length_drop, List.length_cons, List.length_nil] at *; omega) ?_
   clear hH
   intro o64 cap65 cs66 w67 hO68 hH
   (try simp only [nf] at hH ⊢)
   (try simp only [nf, nh, Value.cells] at hH ⊢)
   try rw [← List.map_append] at hO68
   (try simp only [Nat.zero_add, List.nil_append, List.length_nil] at hO68 ⊢)
   refine pa ?_;simp only [nf]
   refine plan_nil hH ?_
   clear hH
   intro w69 hH
   refine hK59 _ _ ?_
   (try clear hK59 K59)
   refine wrt [.p 0, .p 1] ?_
   refine pp rfl rfl (pr_bin rfl rfl (by first | exact bin_add_n (n := 1) (by first | omega | (simp only [List.length_take, List.length_drop, List.length_cons, List.length_nil] at *; omega)) | exact bin_add_i (by first | omega | (simp only [List.length_take, List.length_drop, List.length_cons, List.length_nil] at *; omega)) (by first | omega | (simp only [List.length_take, List.length_drop, List.length_cons, List.length_nil] at *; omega)))) ?_;simp only [nf]
   refine pm ?_;simp only [nf]
   refine plan_nil hH ?_
   clear hH
   intro w70 hH
   (try simp only [Exit.then, Exit.inBlock, ↓reduceIte, Nat.reduceEqDiff])
   refine ⟨l.length - p - (j + 1), ?_, _, rfl, by kernel_rfl, ?_⟩
   · first | omega | (simp only [List.length_take, List.length_drop] at *; omega)
   simp only [ga]
   refine ⟨j + 1, o64, cap65, cs66, rfl, ?_, rfl, ?_, ?_⟩
   ·
    exact hH.take 3
   · first | omega | (omega)
   · first | omega | (rw [← strm_step hpn (Nat.min_le_left _ _) (Nat.min_le_right _ _) (by assumption)]; exact hO68)
  ·
   (try simp only [cnd] at hc58)
   obtain rfl : j = min (16 - m) (l.drop p).length := by simp only [List.length_take, List.length_drop] at *; omega
   refine wp_exit ?_
   (try simp only [Exit.then, Exit.inBlock, ↓reduceIte, Nat.reduceEqDiff])
   refine hK46 _ _ ?_
   (try clear hK46 K46)
   refine wp_seq_k ?_
   intro K71 hK71
   refine wrt [.p 0, .p 1, .p 2, .p 3, .p 4] ?_
   refine pm (pm ?_);simp only [nf]
   refine pp rfl rfl (pr_slice_Sl_l (hbv.chg hH.chg) rfl rfl Tryd.underlying22 sz5 (by first | omega | (simp only [List.length_take, List.length_drop, List.length_cons, List.length_nil] at *; omega))) ?_;simp only [nf]
   refine pa (pka 0 ?_);simp only [nf]
   refine plan_nil hH ?_
   clear hH
   intro w72 hH
   refine hK71 _ _ ?_
   (try clear hK71 K71)
   refine wrt [.p 0, .p 1, .p 2] ?_
   refine pm ?_;simp only [nf]
   refine pp rfl rfl (pr_bin rfl rfl (bin_add_u32 _ 1)) ?_;simp only [nf]
   refine pa ?_;simp only [nf]
   refine plan_nil hH ?_
   clear hH
   intro w73 hH
   (try simp only [Exit.then, Exit.inBlock, ↓reduceIte, Nat.reduceEqDiff])
   refine ⟨l.length - (p + min (16 - m) (l.drop p).length), ?_, _, rfl, by kernel_rfl, ?_⟩
   · first | omega | (simp only [List.length_drop] at *; omega)
   simp only [ga]
   refine ⟨p + min (16 - m) (l.drop p).length, 0, n + 1, ctrF cf n, _, o, cap, cs, rfl, ?_, rfl, ?_, ?_, ?_, ?_, ?_, ?_⟩
   ·
    exact hH.take 2
   · first | omega | (simp only [List.length_drop] at *; omega)
   · first | omega | (simp only [List.length_drop] at *; omega)
   · first | omega | (have := Sl.cutl hbv (lo := min (16 - m) (l.drop p).length) (by omega); rwa [List.drop_drop] at this)
   · first | omega | (exact hO)
   · first | omega | (exact strm_next hpn rfl (by omega))
   · first | omega | (exact ctr_head cf n)
 ·
  (try simp only [cnd] at hc32)
  refine wp_exit ?_
  (try simp only [Exit.then, Exit.inBlock, ↓reduceIte, Nat.reduceEqDiff])
  refine hK21 _ _ ?_
  (try clear hK21 K21)
  refine wp_seq_k ?_
  intro K74 hK74
  refine wrt [.p 0, .p 1, .p 2] ?_
  refine pm (pa (pka 0 ?_));simp only [nf]
  refine plan_nil hH ?_
  clear hH
  intro w75 hH
  refine hK74 _ _ ?_
  (try clear hK74 K74)
  refine wp_ret ?_
  (try simp only [Exit.then, Exit.inBlock, ↓reduceIte, Nat.reduceEqDiff])
  refine BP.ret2 rfl rfl rfl ?_
  have hp : p = l.length := by simp only [List.length_drop] at *; omega
  subst hp
  exact ⟨_, _, _, rfl, hH.chg, hO, hH.owned 1 rfl⟩

end Go.Proofs.YtmoaddicejohgaaDoor
