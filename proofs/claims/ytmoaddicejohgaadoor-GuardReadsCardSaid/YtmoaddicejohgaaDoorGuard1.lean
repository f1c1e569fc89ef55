/- guards() answers true; the law GuardRetries. No further conditions. -/
import Derived.Test.YtmoaddicejohgaaDoorGuard0
import Derived.Test.YtmoaddicejohgaaDoorShaT
set_option linter.unusedSimpArgs false
set_option linter.unusedVariables false
set_option maxRecDepth 100000
set_option maxHeartbeats 4000000
namespace Go.Proofs.YtmoaddicejohgaaDoor
open Go
open List (getD_cons_zero getD_cons_succ set_cons_zero set_cons_succ)

theorem client_is : kCli (macL salt1 (⟨#[131, 148, 200, 240, 62, 81, 87, 8]⟩ : ByteArray).data.toList) = ⟨#[192, 12, 241, 81, 202, 91, 224, 117, 237, 14, 191, 181, 200, 3, 35, 196, 45, 107, 125, 182, 120, 129, 40, 154, 244, 0, 143, 31, 108, 53, 122, 234]⟩ := by
  show (⟨(labL (macL salt1 [131, 148, 200, 240, 62, 81, 87, 8]) ⟨#[99, 108, 105, 101, 110, 116, 32, 105, 110]⟩ [] 32).toArray⟩ : ByteArray) = _
  rw [mac1, lab_client]
theorem key_is : kKey (⟨#[192, 12, 241, 81, 202, 91, 224, 117, 237, 14, 191, 181, 200, 3, 35, 196, 45, 107, 125, 182, 120, 129, 40, 154, 244, 0, 143, 31, 108, 53, 122, 234]⟩ : ByteArray).data.toList = ⟨#[31, 54, 150, 19, 221, 118, 213, 70, 119, 48, 239, 203, 227, 177, 162, 45]⟩ := by
  show (⟨(labL [192, 12, 241, 81, 202, 91, 224, 117, 237, 14, 191, 181, 200, 3, 35, 196, 45, 107, 125, 182, 120, 129, 40, 154, 244, 0, 143, 31, 108, 53, 122, 234] ⟨#[113, 117, 105, 99, 32, 107, 101, 121]⟩ [] 16).toArray⟩ : ByteArray) = _
  rw [lab_key]
theorem client_is2 : kCli (macL salt1 [131, 148, 200, 240, 62, 81, 87, 8]) = ⟨#[192, 12, 241, 81, 202, 91, 224, 117, 237, 14, 191, 181, 200, 3, 35, 196, 45, 107, 125, 182, 120, 129, 40, 154, 244, 0, 143, 31, 108, 53, 122, 234]⟩ := client_is
theorem key_is2 : kKey [192, 12, 241, 81, 202, 91, 224, 117, 237, 14, 191, 181, 200, 3, 35, 196, 45, 107, 125, 182, 120, 129, 40, 154, 244, 0, 143, 31, 108, 53, 122, 234] = ⟨#[31, 54, 150, 19, 221, 118, 213, 70, 119, 48, 239, 203, 227, 177, 162, 45]⟩ := key_is
theorem retT_len (s : ByteArray) (rl : List UInt8) : (retT s rl).length = 16 := by
  unfold retT; rw [sealedL_len]; rfl

theorem guards_calls (w : World) (hT : Tabs w) : Ret Tryd.prog 8 #[] w fun v w' => v = BV true ∧ Chg [] w w' := by
 refine Ret.enter Tryd.func8 rfl ?_
 simp only [Tryd.ntmps8, fe, Nat.reduceAdd, Nat.reduceSub]
 have hH := Hp.start [] w
 refine wp_seq_k ?_
 intro K1 hK1
 refine wrt [.p 0] ?_
 refine pa ?_;simp only [nf]
 refine plan_nil hH ?_
 clear hH
 intro w2 hH
 refine hK1 _ _ ?_
 (try clear hK1 K1)
 refine wp_seq_k ?_
 intro K3 hK3
 refine wrt [.q 0, .p 1, .p 2, .p 3, .p 4, .p 5, .p 6, .p 7] ?_
 refine pq rfl rfl (qr_call cf18 (fun w' hw => keysFirst_calls _ w' (hT.grow (hH.chg.trans hw)) (by first | omega | decide)) rfl) ?_;simp only [nf]
 refine pm ?_;simp only [nf]
 refine pp rfl rfl (pr_extract rfl rfl) ?_;simp only [nf]
 refine pp rfl rfl (pr_extract rfl rfl) ?_;simp only [nf]
 refine pp rfl rfl (pr_extract rfl rfl) ?_;simp only [nf]
 refine pa (pa (pa ?_));simp only [nf]
 refine plan_nil hH ?_
 clear hH
 intro w4 hH
 simp only [client_is, client_is2]
 refine hK3 _ _ ?_
 (try clear hK3 K3)
 refine wp_seq_k ?_
 intro K5 hK5
 refine wrt [.p 0, .q 1, .p 2, .p 3, .p 4, .x 5, .e 6, .p 7] ?_
 refine pm ?_;simp only [nf]
 refine pq rfl rfl (qr_call cf20 (fun w' hw => keysOf_calls _ w' (hT.grow (hH.chg.trans hw)) (by first | rfl | assumption)) rfl) ?_;simp only [nf]
 refine pm ?_;simp only [nf]
 refine pp rfl rfl (pr_extract rfl rfl) ?_;simp only [nf]
 refine pp rfl rfl (pr_extract rfl rfl) ?_;simp only [nf]
 refine plan_alloc rfl rfl hH zc37 ?_
 clear hH
 intro b6 w7 hH
 (try simp only [nf, nh, Value.cells, arrB_set] at hH ⊢)
 refine plan_storeW 0 rfl rfl hH rfl rfl rfl (by simp [Value.oneCell']) sz37 (by simp) (by simp) ?_
 clear hH
 intro w8 hH
 (try simp only [nf, nh, Value.cells, arrB_set] at hH ⊢)
 refine pa ?_;simp only [nf]
 refine plan_nil hH ?_
 clear hH
 intro w9 hH
 simp only [key_is, key_is2] at hH
 refine hK5 _ _ ?_
 (try clear hK5 K5)
 refine wp_seq_k ?_
 intro K10 hK10
 refine wrt [.p 0, .p 1, .p 2, .p 3, .p 4, .p 5, .p 6, .p 7, .q 8, .p 9, .p 10, .p 11, .p 12, .p 13, .q 14, .p 15, .p 16, .p 17, .p 18, .p 19, .q 20, .p 21, .p 22, .p 23, .p 24] ?_
 refine pm ?_;simp only [nf]
 refine pp rfl rfl (pr_bin rfl rfl (by first | exact bin_eql_n (n := 0)  | exact bin_eql_i)) ?_;simp only [nf]
 refine plan_p (v := BV true) rfl rfl (pr_move_v rfl) ?_
 (try simp only [nf])
 refine pp rfl rfl pr_move ?_;simp only [nf]
 refine pp rfl rfl (pr_bin rfl rfl (by first | exact bin_eql_n (n := 0)  | exact bin_eql_i)) ?_;simp only [nf]
 refine pp rfl rfl (pr_pick_t rfl) ?_;simp only [nf]
 refine plan_p (v := BV true) rfl rfl (pr_move_v rfl) ?_
 (try simp only [nf])
 refine pp rfl rfl (pr_fieldAddr 0 rfl Tryd.underlying37 rfl rfl sz9) ?_;simp only [nf]
 refine pq rfl rfl (qr_load1 rfl Tryd.underlying9 rfl ((hH.blk 0 rfl).cell rfl)) ?_;simp only [nf]
 refine pp rfl rfl (pr_len_str rfl Tryd.underlying9) ?_;simp only [nf]
 refine pp rfl rfl (pr_bin rfl rfl (by first | exact bin_eql_n (n := 16)  | exact bin_eql_i)) ?_;simp only [nf]
 refine pp rfl rfl (pr_pick_t rfl) ?_;simp only [nf]
 refine plan_p (v := BV true) rfl rfl (pr_move_v rfl) ?_
 (try simp only [nf])
 refine pp rfl rfl (pr_fieldAddr 0 rfl Tryd.underlying37 rfl rfl sz9) ?_;simp only [nf]
 refine pq rfl rfl (qr_load1 rfl Tryd.underlying9 rfl ((hH.blk 0 rfl).cell rfl)) ?_;simp only [nf]
 refine pp rfl rfl (pr_index_str (i := 0) rfl rfl Tryd.underlying9 (by first | omega | (decide))) ?_;simp only [nf]
 refine pp rfl rfl (pr_bin rfl rfl (bin_eql_u8 _ 31)) ?_;simp only [nf]
 refine pp rfl rfl (pr_pick_t rfl) ?_;simp only [nf]
 refine plan_p (v := BV true) rfl rfl (pr_move_v rfl) ?_
 (try simp only [nf])
 refine pp rfl rfl (pr_fieldAddr 0 rfl Tryd.underlying37 rfl rfl sz9) ?_;simp only [nf]
 refine pq rfl rfl (qr_load1 rfl Tryd.underlying9 rfl ((hH.blk 0 rfl).cell rfl)) ?_;simp only [nf]
 refine pp rfl rfl (pr_index_str (i := 15) rfl rfl Tryd.underlying9 (by first | omega | (decide))) ?_;simp only [nf]
 refine pp rfl rfl (pr_bin rfl rfl (bin_eql_u8 _ 45)) ?_;simp only [nf]
 refine pp rfl rfl (pr_pick_t rfl) ?_;simp only [nf]
 refine pa ?_;simp only [nf]
 refine plan_nil hH ?_
 clear hH
 intro w11 hH
 refine hK10 _ _ ?_
 (try clear hK10 K10)
 refine wp_ret ?_
 (try simp only [Exit.then, Exit.inBlock, ↓reduceIte, Nat.reduceEqDiff])
 refine BP.ret1 rfl rfl ?_
 exact ⟨rfl, hH.chg⟩

theorem retries_long (s : ByteArray) (rv : Value) (rl : List UInt8) (w : World) (hT : Tabs w) (hr : Sl w rv rl) (hs : 2000 < s.size) : Ret Tryd.prog 3 #[.string s, rv] w fun v w' => v = BV true ∧ Chg [] w w' := by
 refine Ret.enter Tryd.func3 rfl ?_
 simp only [Tryd.ntmps3, fe, Nat.reduceAdd, Nat.reduceSub]
 have hH := Hp.start [] w
 refine wp_seq_k ?_
 intro K1 hK1
 refine wrt [.p 0] ?_
 refine pa ?_;simp only [nf]
 refine plan_nil hH ?_
 clear hH
 intro w2 hH
 refine hK1 _ _ ?_
 (try clear hK1 K1)
 refine wp_seq_k ?_
 intro K3 hK3
 refine wp_seq_k ?_
 intro K4 hK4
 refine wrt [.q 0, .p 1, .p 2, .p 3, .p 4, .p 5, .p 6] ?_
 refine pq rfl rfl (qr_call cf8 (fun w' hw => guards_calls w' (hT.grow (hH.chg.trans hw))) rfl) ?_;simp only [nf]
 refine pp rfl rfl (pr_not rfl) ?_;simp only [nf]
 refine plan_p (v := BV false) rfl rfl (pr_move_v rfl) ?_
 (try simp only [nf])
 refine pp rfl rfl pr_move ?_;simp only [nf]
 refine pp rfl rfl (pr_len_str rfl Tryd.underlying9) ?_;simp only [nf]
 refine pp rfl rfl (pr_bin rfl rfl (by first | exact bin_gtr_n (n := 2000)  | exact bin_gtr_i)) ?_;simp only [nf]
 refine pp rfl rfl (pr_pick_f rfl) ?_;simp only [nf]
 refine plan_nil hH ?_
 clear hH
 intro w5 hH
 refine hK4 _ _ ?_
 (try clear hK4 K4)
 refine wp_cond_true (by show BV _ = _; exact congrArg BV (decide_eq_true (by omega))) ?_
 refine wp_seq_k ?_
 intro K6 hK6
 refine wrt [.q 0, .p 1] ?_
 refine pq rfl rfl (qr_call cf8 (fun w' hw => guards_calls w' (hT.grow (hH.chg.trans hw))) rfl) ?_;simp only [nf]
 refine pa ?_;simp only [nf]
 refine plan_nil hH ?_
 clear hH
 intro w7 hH
 refine hK6 _ _ ?_
 (try clear hK6 K6)
 refine wp_ret ?_
 (try simp only [Exit.then, Exit.inBlock, ↓reduceIte, Nat.reduceEqDiff])
 refine BP.ret1 rfl rfl ?_
 exact ⟨rfl, hH.chg⟩

theorem retries_mid (s : ByteArray) (rv : Value) (rl : List UInt8) (w : World) (hT : Tabs w) (hr : Sl w rv rl) (hs : 20 < s.size ∧ s.size ≤ 2000) : Ret Tryd.prog 3 #[.string s, rv] w fun v w' => v = BV true ∧ Chg [] w w' := by
 refine Ret.enter Tryd.func3 rfl ?_
 simp only [Tryd.ntmps3, fe, Nat.reduceAdd, Nat.reduceSub]
 have hH := Hp.start [] w
 refine wp_seq_k ?_
 intro K1 hK1
 refine wrt [.p 0] ?_
 refine pa ?_;simp only [nf]
 refine plan_nil hH ?_
 clear hH
 intro w2 hH
 refine hK1 _ _ ?_
 (try clear hK1 K1)
 refine wp_seq_k ?_
 intro K3 hK3
 refine wp_seq_k ?_
 intro K4 hK4
 refine wrt [.q 0, .p 1, .p 2, .p 3, .p 4, .p 5, .p 6] ?_
 refine pq rfl rfl (qr_call cf8 (fun w' hw => guards_calls w' (hT.grow (hH.chg.trans hw))) rfl) ?_;simp only [nf]
 refine pp rfl rfl (pr_not rfl) ?_;simp only [nf]
 refine plan_p (v := BV false) rfl rfl (pr_move_v rfl) ?_
 (try simp only [nf])
 refine pp rfl rfl pr_move ?_;simp only [nf]
 refine pp rfl rfl (pr_len_str rfl Tryd.underlying9) ?_;simp only [nf]
 refine pp rfl rfl (pr_bin rfl rfl (by first | exact bin_gtr_n (n := 2000)  | exact bin_gtr_i)) ?_;simp only [nf]
 refine pp rfl rfl (pr_pick_f rfl) ?_;simp only [nf]
 refine plan_nil hH ?_
 clear hH
 intro w5 hH
 refine hK4 _ _ ?_
 (try clear hK4 K4)
 refine wp_cond_false (by show BV _ = _; exact congrArg BV (decide_eq_false (by omega))) ?_
 refine wp_skip ?_
 refine hK3 _ _ ?_
 (try clear hK3 K3)
 refine wp_seq_k ?_
 intro K6 hK6
 refine wrt [.p 0, .p 1, .p 2, .p 3, .p 4, .p 5] ?_
 refine pm (pm ?_);simp only [nf]
 refine pp rfl rfl (pr_len_Sl (hr.chg hH.chg) rfl Tryd.underlying22) ?_;simp only [nf]
 refine pp rfl rfl (by first | exact pr_min_n (n := 150) rfl rfl | exact pr_min rfl rfl) ?_;simp only [nf]
 refine pp rfl rfl (pr_slice_Sl_h (hr.chg hH.chg) rfl rfl Tryd.underlying22 sz5 (by first | omega | ((simp; omega)))) ?_;simp only [nf]
 refine pa ?_;simp only [nf]
 refine plan_nil hH ?_
 clear hH
 intro w7 hH
 refine hK6 _ _ ?_
 (try clear hK6 K6)
 refine wp_seq_k ?_
 intro K8 hK8
 refine wrt [.p 0, .p 1, .q 2, .q 3, .p 4, .p 5, .p 6, .p 7, .p 8] ?_
 refine pm (pm ?_);simp only [nf]
 refine pq rfl rfl (qr_b2s (Sl.cuth (hr.chg hH.chg) (by first | omega | ((simp; omega)))) rfl Tryd.underlying22 Tryd.underlying5 Tryd.underlying9) ?_;simp only [nf]
 refine pq rfl rfl (qr_call cf9 (fun w' hw => docretry_fails _ _ w' hs.1) rfl) ?_;simp only [nf]
 refine pm ?_;simp only [nf]
 refine pp rfl rfl (pr_extract rfl rfl) ?_;simp only [nf]
 refine pp rfl rfl (pr_extract rfl rfl) ?_;simp only [nf]
 refine pa (pa ?_);simp only [nf]
 refine plan_nil hH ?_
 clear hH
 intro w9 hH
 refine hK8 _ _ ?_
 (try clear hK8 K8)
 refine wp_seq_k ?_
 intro K10 hK10
 refine wrt [.p 0, .p 1, .q 2, .p 3, .p 4, .p 5, .p 6, .p 7] ?_
 refine pm (pm ?_);simp only [nf]
 refine pq rfl rfl (qr_call cf10 (fun w' hw => retry_fails _ _ w' hs.1) rfl) ?_;simp only [nf]
 refine pm ?_;simp only [nf]
 refine pp rfl rfl (pr_extract rfl rfl) ?_;simp only [nf]
 refine pp rfl rfl (pr_extract rfl rfl) ?_;simp only [nf]
 refine pa (pa ?_);simp only [nf]
 refine plan_nil hH ?_
 clear hH
 intro w11 hH
 refine hK10 _ _ ?_
 (try clear hK10 K10)
 refine wp_seq_k ?_
 intro K12 hK12
 refine wrt [.p 0, .p 1, .p 2, .p 3, .p 4, .p 5, .p 6, .p 7, .p 8, .p 9, .p 10, .p 11, .p 12, .p 13, .p 14, .p 15, .p 16, .p 17] ?_
 refine pm (pm ?_);simp only [nf]
 refine pp rfl rfl (pr_bin rfl rfl bin_eql_s) ?_;simp only [nf]
 refine plan_p (v := BV true) rfl rfl (pr_move_v (by show BV _ = _; exact congrArg BV (beq_self_eq_true _))) ?_
 (try simp only [nf])
 refine pp rfl rfl pr_move ?_;simp only [nf]
 refine pp rfl rfl pr_move ?_;simp only [nf]
 refine pp rfl rfl (pr_bin rfl rfl (by first | exact bin_eql_n  | exact bin_eql_i)) ?_;simp only [nf]
 refine pp rfl rfl (pr_pick_t rfl) ?_;simp only [nf]
 refine plan_p (v := BV true) rfl rfl (pr_move_v rfl) ?_
 (try simp only [nf])
 refine pp rfl rfl pr_move ?_;simp only [nf]
 refine pp rfl rfl (pr_bin rfl rfl (by first | exact bin_neq_n (n := 0)  | exact bin_neq_i)) ?_;simp only [nf]
 refine plan_p (v := BV true) rfl rfl (pr_move_v rfl) ?_
 (try simp only [nf])
 refine plan_ps rfl rfl ?_
 (try simp only [nf])
 refine plan_ps rfl rfl ?_
 (try simp only [nf])
 refine plan_ps rfl rfl ?_
 (try simp only [nf])
 refine pp rfl rfl (pr_pick_t rfl) ?_;simp only [nf]
 refine pp rfl rfl (pr_pick_t rfl) ?_;simp only [nf]
 refine pa ?_;simp only [nf]
 refine plan_nil hH ?_
 clear hH
 intro w13 hH
 refine hK12 _ _ ?_
 (try clear hK12 K12)
 refine wp_ret ?_
 (try simp only [Exit.then, Exit.inBlock, ↓reduceIte, Nat.reduceEqDiff])
 refine BP.ret1 rfl rfl ?_
 exact ⟨rfl, hH.chg⟩

theorem retries_short (s : ByteArray) (rv : Value) (rl : List UInt8) (w : World) (hT : Tabs w) (hr : Sl w rv rl) (hs : s.size ≤ 20) : Ret Tryd.prog 3 #[.string s, rv] w fun v w' => v = BV true ∧ Chg [] w w' := by
 refine Ret.enter Tryd.func3 rfl ?_
 simp only [Tryd.ntmps3, fe, Nat.reduceAdd, Nat.reduceSub]
 have hH := Hp.start [] w
 refine wp_seq_k ?_
 intro K1 hK1
 refine wrt [.p 0] ?_
 refine pa ?_;simp only [nf]
 refine plan_nil hH ?_
 clear hH
 intro w2 hH
 refine hK1 _ _ ?_
 (try clear hK1 K1)
 refine wp_seq_k ?_
 intro K3 hK3
 refine wp_seq_k ?_
 intro K4 hK4
 refine wrt [.q 0, .p 1, .p 2, .p 3, .p 4, .p 5, .p 6] ?_
 refine pq rfl rfl (qr_call cf8 (fun w' hw => guards_calls w' (hT.grow (hH.chg.trans hw))) rfl) ?_;simp only [nf]
 refine pp rfl rfl (pr_not rfl) ?_;simp only [nf]
 refine plan_p (v := BV false) rfl rfl (pr_move_v rfl) ?_
 (try simp only [nf])
 refine pp rfl rfl pr_move ?_;simp only [nf]
 refine pp rfl rfl (pr_len_str rfl Tryd.underlying9) ?_;simp only [nf]
 refine pp rfl rfl (pr_bin rfl rfl (by first | exact bin_gtr_n (n := 2000)  | exact bin_gtr_i)) ?_;simp only [nf]
 refine pp rfl rfl (pr_pick_f rfl) ?_;simp only [nf]
 refine plan_nil hH ?_
 clear hH
 intro w5 hH
 refine hK4 _ _ ?_
 (try clear hK4 K4)
 refine wp_cond_false (by show BV _ = _; exact congrArg BV (decide_eq_false (by omega))) ?_
 refine wp_skip ?_
 refine hK3 _ _ ?_
 (try clear hK3 K3)
 refine wp_seq_k ?_
 intro K6 hK6
 refine wrt [.p 0, .p 1, .p 2, .p 3, .p 4, .p 5] ?_
 refine pm (pm ?_);simp only [nf]
 refine pp rfl rfl (pr_len_Sl (hr.chg hH.chg) rfl Tryd.underlying22) ?_;simp only [nf]
 refine pp rfl rfl (by first | exact pr_min_n (n := 150) rfl rfl | exact pr_min rfl rfl) ?_;simp only [nf]
 refine pp rfl rfl (pr_slice_Sl_h (hr.chg hH.chg) rfl rfl Tryd.underlying22 sz5 (by first | omega | ((simp; omega)))) ?_;simp only [nf]
 refine pa ?_;simp only [nf]
 refine plan_nil hH ?_
 clear hH
 intro w7 hH
 refine hK6 _ _ ?_
 (try clear hK6 K6)
 refine wp_seq_k ?_
 intro K8 hK8
 refine wrt [.p 0, .p 1, .q 2, .q 3, .p 4, .p 5, .p 6, .p 7, .p 8] ?_
 refine pm (pm ?_);simp only [nf]
 refine pq rfl rfl (qr_b2s (Sl.cuth (hr.chg hH.chg) (by first | omega | ((simp; omega)))) rfl Tryd.underlying22 Tryd.underlying5 Tryd.underlying9) ?_;simp only [nf]
 refine pq rfl rfl (qr_call cf9 (fun w' hw => docretry_calls _ _ w' hs (by rw [bsz]; simp; omega)) rfl) ?_;simp only [nf]
 refine pm ?_;simp only [nf]
 refine pp rfl rfl (pr_extract rfl rfl) ?_;simp only [nf]
 refine pp rfl rfl (pr_extract rfl rfl) ?_;simp only [nf]
 refine pa (pa ?_);simp only [nf]
 refine plan_nil hH ?_
 clear hH
 intro w9 hH
 refine hK8 _ _ ?_
 (try clear hK8 K8)
 refine wp_seq_k ?_
 intro K10 hK10
 refine wrt [.p 0, .p 1, .q 2, .p 3, .p 4, .p 5, .p 6, .p 7] ?_
 refine pm (pm ?_);simp only [nf]
 refine pq rfl rfl (qr_call cf10 (fun w' hw => retry_calls _ _ _ w' ((Sl.cuth (hr.chg hH.chg) (by first | omega | ((simp; omega)))).chg hw) hs (by simp; omega)) rfl) ?_;simp only [nf]
 refine pm ?_;simp only [nf]
 refine pp rfl rfl (pr_extract rfl rfl) ?_;simp only [nf]
 refine pp rfl rfl (pr_extract rfl rfl) ?_;simp only [nf]
 refine pa (pa ?_);simp only [nf]
 refine plan_nil hH ?_
 clear hH
 intro w11 hH
 refine hK10 _ _ ?_
 (try clear hK10 K10)
 refine wp_seq_k ?_
 intro K12 hK12
 refine wrt [.p 0, .p 1, .p 2, .p 3, .p 4, .p 5, .p 6, .p 7, .p 8, .p 9, .p 10, .p 11, .p 12, .p 13, .p 14, .p 15, .p 16, .p 17] ?_
 refine pm (pm ?_);simp only [nf]
 refine pp rfl rfl (pr_bin rfl rfl bin_eql_s) ?_;simp only [nf]
 refine plan_p (v := BV true) rfl rfl (pr_move_v (by show BV _ = _; exact congrArg BV (beq_self_eq_true _))) ?_
 (try simp only [nf])
 refine pp rfl rfl pr_move ?_;simp only [nf]
 refine pp rfl rfl pr_move ?_;simp only [nf]
 refine pp rfl rfl (pr_bin rfl rfl (by first | exact bin_eql_n  | exact bin_eql_i)) ?_;simp only [nf]
 refine pp rfl rfl (pr_pick_t rfl) ?_;simp only [nf]
 refine plan_p (v := BV true) rfl rfl (pr_move_v rfl) ?_
 (try simp only [nf])
 refine pp rfl rfl pr_move ?_;simp only [nf]
 refine pp rfl rfl (pr_bin rfl rfl (by first | exact bin_neq_n (n := 0)  | exact bin_neq_i)) ?_;simp only [nf]
 refine plan_p (v := BV false) rfl rfl (pr_move_v rfl) ?_
 (try simp only [nf])
 refine pp rfl rfl pr_move ?_;simp only [nf]
 refine pp rfl rfl (pr_len_str rfl Tryd.underlying9) ?_;simp only [nf]
 refine pp rfl rfl (pr_bin rfl rfl (by first | exact bin_eql_n (n := 16)  | exact bin_eql_i)) ?_;simp only [nf]
 refine pp rfl rfl (pr_pick_f rfl) ?_;simp only [nf]
 refine pp rfl rfl (pr_pick_t rfl) ?_;simp only [nf]
 refine pa ?_;simp only [nf]
 refine plan_nil hH ?_
 clear hH
 intro w13 hH
 refine hK12 _ _ ?_
 (try clear hK12 K12)
 refine wp_ret ?_
 (try simp only [Exit.then, Exit.inBlock, ↓reduceIte, Nat.reduceEqDiff])
 refine BP.ret1 rfl rfl ?_
 exact ⟨congrArg BV (beq_iff_eq.2 (by rw [bsz]; exact retT_len _ _)), hH.chg⟩

theorem retries_calls (s : ByteArray) (rv : Value) (rl : List UInt8) (w : World) (hT : Tabs w) (hr : Sl w rv rl) : Ret Tryd.prog 3 #[.string s, rv] w fun v w' => v = BV true ∧ Chg [] w w' := by
  by_cases h1 : s.size ≤ 20
  · exact retries_short s rv rl w hT hr h1
  · by_cases h2 : s.size ≤ 2000
    · exact retries_mid s rv rl w hT hr ⟨by omega, h2⟩
    · exact retries_long s rv rl w hT hr (by omega)

end Go.Proofs.YtmoaddicejohgaaDoor
