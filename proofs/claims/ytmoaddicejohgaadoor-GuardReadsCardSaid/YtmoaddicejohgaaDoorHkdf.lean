/- Walks of hkdf: Extract, Expand, Label, with secrets of at most 64 bytes; of guard's label, Of, First, Next. No further conditions. -/
import Derived.Test.YtmoaddicejohgaaDoorSha2
import Derived.Test.YtmoaddicejohgaaDoorConv
set_option linter.unusedSimpArgs false
set_option linter.unusedVariables false
set_option maxRecDepth 100000
set_option maxHeartbeats 4000000
namespace Go.Proofs.YtmoaddicejohgaaDoor
open Go
open List (getD_cons_zero getD_cons_succ set_cons_zero set_cons_succ)

def macL (sl bl : List UInt8) : List UInt8 := (List.range 32).map (macD sl bl)
@[simp] theorem macL_len (sl bl : List UInt8) : (macL sl bl).length = 32 := by simp [macL]
def expT (sl il : List UInt8) : Nat → List UInt8
  | 0 => []
  | k + 1 => macL sl (expT sl il k ++ il ++ [UInt8.ofNat (k + 1)])
def expO (sl il : List UInt8) : Nat → List UInt8
  | 0 => []
  | k + 1 => expO sl il k ++ expT sl il (k + 1)
theorem expT_succ (sl il : List UInt8) (k : Nat) : expT sl il (k + 1) = macL sl (expT sl il k ++ il ++ [UInt8.ofNat (k + 1)]) := rfl
theorem expO_succ (sl il : List UInt8) (k : Nat) : expO sl il (k + 1) = expO sl il k ++ macL sl (expT sl il k ++ il ++ [UInt8.ofNat (k + 1)]) := rfl
def tN : Nat → Nat
  | 0 => 0
  | _ + 1 => 32
theorem tN_le (k : Nat) : tN k ≤ 32 := by cases k <;> simp [tN]
theorem u8_succ (n : Nat) : UInt8.ofNat n + 1 = UInt8.ofNat (n + 1) := by
  apply UInt8.toNat_inj.1
  simp [UInt8.toNat_add]
def infoL (nm : ByteArray) (cl : List UInt8) (n : Nat) : List UInt8 :=
  [UInt8.ofNat (n / 2 ^ 8), UInt8.ofNat n, UInt8.ofNat (6 + nm.size)] ++ [116, 108, 115, 49, 51, 32] ++ nm.data.toList ++ [UInt8.ofNat cl.length] ++ cl
def labL (sl : List UInt8) (nm : ByteArray) (cl : List UInt8) (n : Nat) : List UInt8 := (expO sl (infoL nm cl n) ((n + 31) / 32)).take n
theorem Hp.two {S : List Nat} {w0 w : World} {L : List Own} (h : Hp S w0 w L) (i j : Nat) {e e' : Own} (hi : L[i]? = some e) (hj : L[j]? = some e') (hij : i ≠ j) : Hp S w0 w [e, e'] := by
  have h1 : Hp S w0 w [e] := (h.take 0).add e (fun b hb => h.own e (List.mem_of_getElem? hi) b hb) (fun x hx => by simp at hx)
  refine h1.add e' (fun b hb => h.own e' (List.mem_of_getElem? hj) b hb) (fun x hx b hb hxb => ?_)
  simp only [List.mem_singleton] at hx
  subst hx
  exact hij (h.apart i j b (by rw [hi]; exact hxb) (by rw [hj]; exact hb))

theorem extract_calls (sv bv : Value) (sl bl : List UInt8) (w : World) (hT : Tabs w) (hs : Sl w sv sl) (hb : Sl w bv bl) (h64 : sl.length ≤ 64) (hm : bl.length ≤ 140737488340000) : Ret Tryd.prog 37 #[sv, bv] w fun v w' => ∃ o cap cs, v = own o 32 cap ∧ Chg [] w w' ∧ OwnC o 32 cap 1 cs ((macL sl bl).map V8) ∧ ∀ b, o = some b → w.heap.size ≤ b ∧ Blk w' b 96 cs := by
 refine Ret.enter Tryd.func37 rfl ?_
 simp only [Tryd.ntmps37, fe, Nat.reduceAdd, Nat.reduceSub]
 have hH := Hp.start [] w
 refine wp_seq_k ?_
 intro K1 hK1
 refine wrt [.p 0] ?_
 refine pa ?_;simp only [nf]
 refine plan_nil hH ?_
 clear hH
 intro w2 hH
 refine hK1 _ _ ?_
 (try clear hK1 K1)
 refine wp_seq_k ?_
 intro K3 hK3
 refine wrt [.p 0, .p 1, .q 2, .x 3, .e 4] ?_
 refine pm (pm ?_);simp only [nf]
 refine pq rfl rfl (qr_call cf51 (fun w' hw => mac_calls _ _ _ _ w' (hT.grow (hH.chg.trans hw)) ((hs.chg hH.chg).chg hw) ((hb.chg hH.chg).chg hw) (by first | assumption | omega | (simp <;> omega)) (by first | omega | (simp <;> omega))) rfl) ?_;simp only [nf]
 refine plan_alloc rfl rfl hH zc96 ?_
 clear hH
 intro b4 w5 hH
 (try simp only [nf, nh, Value.cells, arrB_set] at hH ⊢)
 refine plan_storeW 0 rfl rfl hH rfl rfl rfl one_arr8 sz96 (by simp) (by simp) ?_
 clear hH
 intro w6 hH
 (try simp only [nf, nh, Value.cells, arrB_set] at hH ⊢)
 refine plan_nil hH ?_
 clear hH
 intro w7 hH
 refine hK3 _ _ ?_
 (try clear hK3 K3)
 refine wp_seq_k ?_
 intro K8 hK8
 refine wrt [.p 0, .p 1] ?_
 refine pp rfl rfl (pr_slice_arr_all rfl Tryd.underlying96 sz5) ?_;simp only [nf]
 (try simp only [Nat.mul_one, Nat.zero_add, Nat.add_sub_cancel_left])
 refine pa ?_;simp only [nf]
 refine plan_nil hH ?_
 clear hH
 intro w9 hH
 refine hK8 _ _ ?_
 (try clear hK8 K8)
 refine wp_ret ?_
 (try simp only [Exit.then, Exit.inBlock, ↓reduceIte, Nat.reduceEqDiff])
 refine BP.ret1 rfl rfl ?_
 exact ⟨some _, 32, _, rfl, hH.chg, OwnC.made, hH.owned 0 rfl⟩

theorem expand_calls (sv iv : Value) (sl il : List UInt8) (n : Nat) (w : World) (hT : Tabs w) (hs : Sl w sv sl) (hi : Sl w iv il) (h64 : sl.length ≤ 64) (hil : il.length ≤ 10000) (hn : n ≤ 8160) : Ret Tryd.prog 71 #[sv, iv, I64 n] w fun v w' => ∃ o cs, v = .tuple #[ownO o 0 n n, I64 (0 : Nat)] ∧ Chg [] w w' ∧ OwnD o 0 n n cs ((expO sl il ((n + 31) / 32)).take n) ∧ ∀ b, o = some b → w.heap.size ≤ b ∧ Blk w' b 5 cs := by
 refine Ret.enter Tryd.func71 rfl ?_
 simp only [Tryd.ntmps71, fe, Nat.reduceAdd, Nat.reduceSub]
 have hH := Hp.start [] w
 refine wp_seq_k ?_
 intro K1 hK1
 refine wrt [.p 0, .p 1] ?_
 refine pa (pka 0 ?_);simp only [nf]
 refine plan_nil hH ?_
 clear hH
 intro w2 hH
 refine hK1 _ _ ?_
 (try clear hK1 K1)
 refine wp_seq_k ?_
 intro K3 hK3
 refine wp_seq_k ?_
 intro K4 hK4
 refine wrt [.p 0, .p 1, .p 2, .p 3, .p 4, .p 5] ?_
 refine pm ?_;simp only [nf]
 refine pp rfl rfl (pr_bin rfl rfl (by first | exact bin_lss_n (n := 0)  | exact bin_lss_i)) ?_;simp only [nf]
 refine plan_p (v := BV false) rfl rfl (pr_move_v (by show BV _ = _; exact congrArg BV (decide_eq_false (by omega)))) ?_
 (try simp only [nf])
 refine pp rfl rfl pr_move ?_;simp only [nf]
 refine pp rfl rfl (pr_bin rfl rfl (by first | exact bin_gtr_n (n := 8160)  | exact bin_gtr_i)) ?_;simp only [nf]
 refine pp rfl rfl (pr_pick_f rfl) ?_;simp only [nf]
 refine plan_nil hH ?_
 clear hH
 intro w5 hH
 refine hK4 _ _ ?_
 (try clear hK4 K4)
 refine wp_cond_false (by show BV _ = _; exact congrArg BV (decide_eq_false (by omega))) ?_
 refine wp_skip ?_
 refine hK3 _ _ ?_
 (try clear hK3 K3)
 refine wp_seq_k ?_
 intro K6 hK6
 refine wrt [.p 0, .p 1] ?_
 refine pa (pa ?_);simp only [nf]
 refine plan_nil hH ?_
 clear hH
 intro w7 hH
 refine hK6 _ _ ?_
 (try clear hK6 K6)
 refine wp_seq_k ?_
 intro K8 hK8
 refine wp_seq_k ?_
 intro K9 hK9
 refine wrt [.p 0] ?_
 refine pa ?_;simp only [nf]
 refine plan_nil hH ?_
 clear hH
 intro w10 hH
 refine hK9 _ _ ?_
 (try clear hK9 K9)
 refine wp_block ?_
 refine wp_loopT [8, 9, 10] [11, 12, 19, 20, 21, 22, 23, 24, 25, 26, 27, 28, 29, 30, 31, 32, 33, 34, 35, 36, 37, 38, 39] (fun (n11 : Nat) (vs : List Value) (w' : World) => ∃ (k : Nat) (o : Option Nat) (c : Nat) (cs : Array Value) (ot : Option Nat) (tc : Nat) (ts : Array Value), vs = [own o (32 * k) c, own ot (tN k) tc, V8 (UInt8.ofNat (k + 1))] ∧ Hp [] w w' [(o, 5, cs), (ot, 96, ts)] ∧ n11 = (n + 31) / 32 - k ∧ k ≤ (n + 31) / 32 ∧ OwnC o (32 * k) c 1 cs ((expO sl il k).map V8) ∧ OwnC ot (tN k) tc 1 ts ((expT sl il k).map V8)) ((n + 31) / 32 - 0) (by kernel_rfl) ?_ ?_
 ·
  simp only [ga]
  refine ⟨0, none, 0, #[], none, 0, #[], rfl, ?_, rfl, ?_, ?_, ?_⟩
  ·
   exact (hH.nil _).nil _
  · first | omega | (omega)
  · first | omega | (exact OwnC.start 1)
  · first | omega | (exact OwnC.start 1)
 clear hH
 intro n11 vs12 w13 hR14 d0
 obtain ⟨k, o, c, cs, ot, tc, ts, rfl, hH, hn15, hf16, hO, hOt⟩ := hR14
 simp only [putAll, putD, List.set_cons_zero, List.set_cons_succ, Nat.zero_add, Nat.reduceAdd]
 have htn := tN_le k
 have hlt := hOt.d.len
 have hlo := hO.d.len
 refine wp_seq_k ?_
 intro K17 hK17
 refine wp_seq_k ?_
 intro K18 hK18
 refine wrt [.p 0, .p 1, .p 2, .p 3] ?_
 refine pm ?_;simp only [nf]
 refine pp rfl rfl (pr_len_sl rfl Tryd.underlying22) ?_;simp only [nf]
 refine pm ?_;simp only [nf]
 refine pp rfl rfl (pr_bin rfl rfl (by first | exact bin_lss_n  | exact bin_lss_i)) ?_;simp only [nf]
 refine plan_nil hH ?_
 clear hH
 intro w19 hH
 refine hK18 _ _ ?_
 (try clear hK18 K18)
 refine wp_cond_split rfl (fun hc20 => ?_) (fun hc20 => ?_)
 ·
  (try simp only [cnd] at hc20)
  refine wp_skip ?_
  refine hK17 _ _ ?_
  (try clear hK17 K17)
  refine wp_seq_k ?_
  intro K21 hK21
  refine wp_block ?_
  refine wp_seq_k ?_
  intro K22 hK22
  refine wrt [.x 0, .p 1, .e 2, .p 3, .e 4, .p 5, .x 6, .e 7, .p 8] ?_
  refine plan_buildSlice rfl rfl hH Tryd.underlying22 (by rfl) (bs0 ) ?_
  clear hH
  intro b23 w24 hH
  (try simp only [nf, nh, Value.cells, arrB_set] at hH ⊢)
  refine pm ?_;simp only [nf]
  refine plan_append 2 rfl rfl hH rfl (OwnC.of_bytes rfl) (fun w' hH => ((OwnC.sl hH 1 rfl hOt)).src) rfl rfl Tryd.underlying22 Tryd.underlying22 (.inl ⟨_, rfl⟩) sz5 bz5 ze5 rfl (by first | omega | (simp <;> omega)) (by first | omega | (simp <;> omega)) ?_
  clear hH
  intro o25 cap26 cs27 w28 hO29 hH
  (try simp only [nf] at hH ⊢)
  (try simp only [nf, nh, Value.cells, arrB_set] at hH ⊢)
  try rw [← List.map_append] at hO29
  (try simp only [Nat.zero_add, List.nil_append, List.length_nil] at hO29 ⊢)
  refine pm ?_;simp only [nf]
  refine plan_append 2 rfl rfl hH rfl hO29 (fun w' hH => ((hi.chg hH.chg)).src) rfl rfl Tryd.underlying22 Tryd.underlying22 (.inl ⟨_, rfl⟩) sz5 bz5 ze5 rfl (by first | omega | (simp <;> omega)) (by first | omega | (simp <;> omega)) ?_
  clear hH
  intro o30 cap31 cs32 w33 hO34 hH
  (try simp only [nf] at hH ⊢)
  (try simp only [nf, nh, Value.cells, arrB_set] at hH ⊢)
  try rw [← List.map_append] at hO34
  (try simp only [Nat.zero_add, List.nil_append, List.length_nil] at hO34 ⊢)
  refine pm ?_;simp only [nf]
  refine plan_buildSlice rfl rfl hH Tryd.underlying22 (by rfl) (bs1 _) ?_
  clear hH
  intro b35 w36 hH
  (try simp only [nf, nh, Value.cells, arrB_set] at hH ⊢)
  refine plan_append 2 rfl rfl hH rfl hO34 (fun w' hH => ((OwnC.sl hH 3 rfl (OwnC.of_bytes rfl))).src) rfl rfl Tryd.underlying22 Tryd.underlying22 (.inl ⟨_, rfl⟩) sz5 bz5 ze5 rfl (by first | omega | (simp <;> omega)) (by first | omega | (simp <;> omega)) ?_
  clear hH
  intro o37 cap38 cs39 w40 hO41 hH
  (try simp only [nf] at hH ⊢)
  (try simp only [nf, nh, Value.cells, arrB_set] at hH ⊢)
  try rw [← List.map_append] at hO41
  (try simp only [Nat.zero_add, List.nil_append, List.length_nil] at hO41 ⊢)
  refine pa ?_;simp only [nf]
  refine plan_nil hH ?_
  clear hH
  intro w42 hH
  refine hK22 _ _ ?_
  (try clear hK22 K22)
  refine wp_seq_k ?_
  intro K43 hK43
  refine wrt [.p 0, .p 1, .q 2, .x 3, .e 4] ?_
  refine pm (pm ?_);simp only [nf]
  refine pq rfl rfl (qr_call cf51 (fun w' hw => mac_calls _ _ _ _ w' (hT.grow (hH.chg.trans hw)) ((hs.chg hH.chg).chg hw) ((OwnC.sl hH 2 rfl hO41).chg hw) (by first | assumption | omega | (simp <;> omega)) (by first | omega | (simp <;> omega))) rfl) ?_;simp only [nf]
  refine plan_alloc rfl rfl hH zc96 ?_
  clear hH
  intro b44 w45 hH
  (try simp only [nf, nh, Value.cells, arrB_set] at hH ⊢)
  refine plan_storeW 4 rfl rfl hH rfl rfl rfl one_arr8 sz96 (by simp) (by simp) ?_
  clear hH
  intro w46 hH
  (try simp only [nf, nh, Value.cells, arrB_set] at hH ⊢)
  refine plan_nil hH ?_
  clear hH
  intro w47 hH
  refine hK43 _ _ ?_
  (try clear hK43 K43)
  refine wp_seq_k ?_
  intro K48 hK48
  refine wrt [.p 0, .p 1] ?_
  refine pp rfl rfl (pr_slice_arr_all rfl Tryd.underlying96 sz5) ?_;simp only [nf]
  (try simp only [Nat.mul_one, Nat.zero_add, Nat.add_sub_cancel_left])
  refine pa ?_;simp only [nf]
  refine plan_nil hH ?_
  clear hH
  intro w49 hH
  refine hK48 _ _ ?_
  (try clear hK48 K48)
  refine wrt [.p 0, .p 1, .e 2, .p 3] ?_
  refine pm (pm ?_);simp only [nf]
  refine plan_append 0 rfl rfl hH rfl hO (fun w' hH => ((Sl.of_arr8 (hH.blk 4 rfl) (by omega) (by omega))).src) rfl rfl Tryd.underlying22 Tryd.underlying22 (.inl ⟨_, rfl⟩) sz5 bz5 ze5 rfl (by first | omega | (simp <;> omega)) (by first | omega | (simp <;> omega)) ?_
  clear hH
  intro o50 cap51 cs52 w53 hO54 hH
  (try simp only [nf] at hH ⊢)
  (try simp only [nf, nh, Value.cells, arrB_set] at hH ⊢)
  try rw [← List.map_append] at hO54
  (try simp only [Nat.zero_add, List.nil_append, List.length_nil] at hO54 ⊢)
  refine pa ?_;simp only [nf]
  refine plan_nil hH ?_
  clear hH
  intro w55 hH
  refine hK21 _ _ ?_
  (try clear hK21 K21)
  refine wrt [.p 0, .p 1, .p 2] ?_
  refine pm ?_;simp only [nf]
  refine pp rfl rfl (pr_bin rfl rfl (bin_add_u8 _ 1)) ?_;simp only [nf]
  refine pa ?_;simp only [nf]
  refine plan_nil hH ?_
  clear hH
  intro w56 hH
  (try simp only [Exit.then, Exit.inBlock, ↓reduceIte, Nat.reduceEqDiff])
  rw [u8_succ]
  refine ⟨(n + 31) / 32 - (k + 1), ?_, _, rfl, by kernel_rfl, ?_⟩
  · first | omega | (omega)
  simp only [ga]
  refine ⟨k + 1, o50, cap51, cs52, some b44, 32, arr8 32 (macD sl (expT sl il k ++ il ++ [UInt8.ofNat (k + 1)])), rfl, ?_, rfl, ?_, ?_, ?_⟩
  ·
   exact hH.two 0 4 rfl rfl (by decide)
  · first | omega | (omega)
  · first | omega | (rw [expO_succ]; exact hO54)
  · first | omega | (rw [expT_succ]; exact OwnC.made)
 ·
  (try simp only [cnd] at hc20)
  obtain rfl : k = (n + 31) / 32 := by omega
  refine wp_exit ?_
  (try simp only [Exit.then, Exit.inBlock, ↓reduceIte, Nat.reduceEqDiff])
  refine hK8 _ _ ?_
  (try clear hK8 K8)
  refine wp_seq_k ?_
  intro K57 hK57
  refine wrt [.p 0, .p 1, .p 2, .p 3, .p 4, .p 5] ?_
  refine pm (pm (pm ?_));simp only [nf]
  refine pp rfl rfl (pr_slice_O3 rfl rfl rfl Tryd.underlying22 sz5 (Nat.le_trans (by omega) (OwnC.le hO))) ?_;simp only [nf]
  refine pa (pka 0 ?_);simp only [nf]
  refine plan_nil hH ?_
  clear hH
  intro w58 hH
  refine hK57 _ _ ?_
  (try clear hK57 K57)
  refine wp_ret ?_
  (try simp only [Exit.then, Exit.inBlock, ↓reduceIte, Nat.reduceEqDiff])
  refine BP.ret2 rfl rfl rfl ?_
  exact ⟨_, _, rfl, hH.chg, hO.cut3 (by omega), hH.owned 0 rfl⟩

theorem label2_calls (sv cv : Value) (nm : ByteArray) (sl cl : List UInt8) (n : Nat) (w : World) (hT : Tabs w) (hs : Sl w sv sl) (hc : Sl w cv cl) (h64 : sl.length ≤ 64) (hnm : nm.size ≤ 249) (hcl : cl.length ≤ 255) (hn : n ≤ 8160) : Ret Tryd.prog 52 #[sv, .string nm, cv, I64 n] w fun v w' => ∃ o cs, v = .tuple #[ownO o 0 n n, I64 (0 : Nat)] ∧ Chg [] w w' ∧ OwnD o 0 n n cs (labL sl nm cl n) ∧ ∀ b, o = some b → w.heap.size ≤ b ∧ Blk w' b 5 cs := by
 have h6 : (⟨#[116, 108, 115, 49, 51, 32]⟩ : ByteArray).size = 6 := rfl
 refine Ret.enter Tryd.func52 rfl ?_
 simp only [Tryd.ntmps52, fe, Nat.reduceAdd, Nat.reduceSub]
 have hH := Hp.start [] w
 refine wp_seq_k ?_
 intro K1 hK1
 refine wrt [.p 0, .p 1] ?_
 refine pa (pka 0 ?_);simp only [nf]
 refine plan_nil hH ?_
 clear hH
 intro w2 hH
 refine hK1 _ _ ?_
 (try clear hK1 K1)
 refine wp_seq_k ?_
 intro K3 hK3
 refine wp_block ?_
 refine wp_seq_k ?_
 intro K4 hK4
 refine wrt [.p 0, .p 1, .p 2, .p 3, .p 4, .p 5, .p 6] ?_
 refine pm ?_;simp only [nf]
 refine pp rfl rfl (pr_bin rfl rfl (by first | exact bin_lss_n (n := 0)  | exact bin_lss_i)) ?_;simp only [nf]
 refine plan_p (v := BV false) rfl rfl (pr_move_v (by show BV _ = _; exact congrArg BV (decide_eq_false (by omega)))) ?_
 (try simp only [nf])
 refine pp rfl rfl pr_move ?_;simp only [nf]
 refine pp rfl rfl (pr_bin rfl rfl (by first | exact bin_gtr_n (n := 8160)  | exact bin_gtr_i)) ?_;simp only [nf]
 refine pp rfl rfl (pr_pick_f rfl) ?_;simp only [nf]
 refine pa ?_;simp only [nf]
 refine plan_nil hH ?_
 clear hH
 intro w5 hH
 refine hK4 _ _ ?_
 (try clear hK4 K4)
 refine wp_cond_false (by show BV _ = _; exact congrArg BV (decide_eq_false (by omega))) ?_
 refine wp_seq_k ?_
 intro K6 hK6
 refine wrt [.p 0, .p 1, .p 2, .p 3, .p 4, .p 5, .p 6, .p 7, .p 8] ?_
 refine pm ?_;simp only [nf]
 refine pp rfl rfl (pr_len_str rfl Tryd.underlying9) ?_;simp only [nf]
 refine pp rfl rfl (pr_bin rfl rfl (by first | exact bin_gtr_n (n := 249)  | exact bin_gtr_i)) ?_;simp only [nf]
 refine plan_p (v := BV false) rfl rfl (pr_move_v (by show BV _ = _; exact congrArg BV (decide_eq_false (by omega)))) ?_
 (try simp only [nf])
 refine pp rfl rfl pr_move ?_;simp only [nf]
 refine pp rfl rfl (pr_len_Sl (hc.chg hH.chg) rfl Tryd.underlying22) ?_;simp only [nf]
 refine pp rfl rfl (pr_bin rfl rfl (by first | exact bin_gtr_n (n := 255)  | exact bin_gtr_i)) ?_;simp only [nf]
 refine pp rfl rfl (pr_pick_f rfl) ?_;simp only [nf]
 refine pa ?_;simp only [nf]
 refine plan_nil hH ?_
 clear hH
 intro w7 hH
 refine hK6 _ _ ?_
 (try clear hK6 K6)
 refine wp_cond_false (by show BV _ = _; exact congrArg BV (decide_eq_false (by omega))) ?_
 refine wp_skip ?_
 refine hK3 _ _ ?_
 (try clear hK3 K3)
 refine wp_seq_k ?_
 intro K8 hK8
 refine wrt [.p 0, .p 1, .p 2, .p 3, .p 4, .p 5, .p 6, .p 7, .p 8, .x 9, .e 10, .p 11] ?_
 refine pm ?_;simp only [nf]
 refine pp rfl rfl (pr_bin rfl rfl (bin_shr_n (c := 8) (by decide))) ?_;simp only [nf]
 refine pp rfl rfl (pr_conv rfl (by first | exact cnv_n_u8 Tryd.underlying3 Tryd.underlying5 | exact cnv_i_u8 Tryd.underlying3 Tryd.underlying5)) ?_;simp only [nf]
 refine pm ?_;simp only [nf]
 refine pp rfl rfl (pr_conv rfl (by first | exact cnv_n_u8 Tryd.underlying3 Tryd.underlying5 | exact cnv_i_u8 Tryd.underlying3 Tryd.underlying5)) ?_;simp only [nf]
 refine pm ?_;simp only [nf]
 refine pp rfl rfl (pr_len_str rfl Tryd.underlying9) ?_;simp only [nf]
 refine pp rfl rfl (pr_bin rfl rfl (by first | exact bin_add_n (m := 6) (by omega) | exact bin_add_i (by omega) (by omega))) ?_;simp only [nf]
 refine pp rfl rfl (pr_conv rfl (by first | exact cnv_n_u8 Tryd.underlying3 Tryd.underlying5 | exact cnv_i_u8 Tryd.underlying3 Tryd.underlying5)) ?_;simp only [nf]
 refine plan_buildSlice rfl rfl hH Tryd.underlying22 (by rfl) (bs3 _ _ _) ?_
 clear hH
 intro b9 w10 hH
 (try simp only [nf, nh, Value.cells, arrB_set] at hH ⊢)
 refine plan_append 0 rfl rfl hH rfl (OwnC.of_bytes rfl) (fun w' hH => src_string _) rfl rfl Tryd.underlying22 Tryd.underlying9 (.inr rfl) sz5 bz5 ze5 rfl (by first | omega | (simp <;> omega)) (by first | omega | (simp <;> omega)) ?_
 clear hH
 intro o11 cap12 cs13 w14 hO15 hH
 (try simp only [nf] at hH ⊢)
 (try simp only [nf, nh, Value.cells, arrB_set] at hH ⊢)
 try rw [← List.map_append] at hO15
 (try simp only [Nat.zero_add, List.nil_append, List.length_nil] at hO15 ⊢)
 refine pa ?_;simp only [nf]
 refine plan_nil hH ?_
 clear hH
 intro w16 hH
 refine hK8 _ _ ?_
 (try clear hK8 K8)
 refine wp_seq_k ?_
 intro K17 hK17
 refine wrt [.p 0, .p 1, .e 2, .p 3, .p 4, .p 5, .x 6, .e 7, .p 8] ?_
 refine pm (pm ?_);simp only [nf]
 refine plan_append 0 rfl rfl hH rfl hO15 (fun w' hH => src_string _) rfl rfl Tryd.underlying22 Tryd.underlying9 (.inr rfl) sz5 bz5 ze5 rfl (by first | omega | (simp <;> omega)) (by first | omega | (simp <;> omega)) ?_
 clear hH
 intro o18 cap19 cs20 w21 hO22 hH
 (try simp only [nf] at hH ⊢)
 (try simp only [nf, nh, Value.cells, arrB_set] at hH ⊢)
 try rw [← List.map_append] at hO22
 (try simp only [Nat.zero_add, List.nil_append, List.length_nil] at hO22 ⊢)
 refine pm ?_;simp only [nf]
 refine pp rfl rfl (pr_len_Sl (hc.chg hH.chg) rfl Tryd.underlying22) ?_;simp only [nf]
 refine pp rfl rfl (pr_conv rfl (by first | exact cnv_n_u8 Tryd.underlying3 Tryd.underlying5 | exact cnv_i_u8 Tryd.underlying3 Tryd.underlying5)) ?_;simp only [nf]
 refine plan_buildSlice rfl rfl hH Tryd.underlying22 (by rfl) (bs1 _) ?_
 clear hH
 intro b23 w24 hH
 (try simp only [nf, nh, Value.cells, arrB_set] at hH ⊢)
 refine plan_append 0 rfl rfl hH rfl hO22 (fun w' hH => ((OwnC.sl hH 1 rfl (OwnC.of_bytes rfl))).src) rfl rfl Tryd.underlying22 Tryd.underlying22 (.inl ⟨_, rfl⟩) sz5 bz5 ze5 rfl (by first | omega | (simp <;> omega)) (by first | omega | (simp <;> omega)) ?_
 clear hH
 intro o25 cap26 cs27 w28 hO29 hH
 (try simp only [nf] at hH ⊢)
 (try simp only [nf, nh, Value.cells, arrB_set] at hH ⊢)
 try rw [← List.map_append] at hO29
 (try simp only [Nat.zero_add, List.nil_append, List.length_nil] at hO29 ⊢)
 refine pa ?_;simp only [nf]
 refine plan_nil hH ?_
 clear hH
 intro w30 hH
 refine hK17 _ _ ?_
 (try clear hK17 K17)
 refine wp_seq_k ?_
 intro K31 hK31
 refine wrt [.p 0, .p 1, .p 2, .e 3, .p 4, .x 5, .p 6, .p 7, .p 8, .p 9] ?_
 refine pm (pm (pm ?_));simp only [nf]
 refine plan_append 0 rfl rfl hH rfl hO29 (fun w' hH => ((hc.chg hH.chg)).src) rfl rfl Tryd.underlying22 Tryd.underlying22 (.inl ⟨_, rfl⟩) sz5 bz5 ze5 rfl (by first | omega | (simp <;> omega)) (by first | omega | (simp <;> omega)) ?_
 clear hH
 intro o32 cap33 cs34 w35 hO36 hH
 (try simp only [nf] at hH ⊢)
 (try simp only [nf, nh, Value.cells, arrB_set] at hH ⊢)
 try rw [← List.map_append] at hO36
 (try simp only [Nat.zero_add, List.nil_append, List.length_nil] at hO36 ⊢)
 refine pm ?_;simp only [nf]
 refine plan_callx rfl rfl hH cf71 (fun w' hH => expand_calls _ _ _ _ _ w' (hT.grow hH.chg) (hs.chg hH.chg) (OwnC.sl hH 0 rfl hO36) h64 (by first | omega | (simp <;> omega)) hn) rfl (fun _ _ _ h => by obtain ⟨_, _, _, hg, _⟩ := h; exact hg) ?_
 clear hH
 intro w37 v38 w39 hH hp40
 obtain ⟨o41, cs42, rfl, hg, hO43, hfr⟩ := hp40
 replace hH := hH.callown hg hfr
 clear hg hfr
 (try simp only [nf, nh, Value.cells, arrB_set] at hH ⊢)
 (try simp only [nf])
 refine pp rfl rfl (pr_extract rfl rfl) ?_;simp only [nf]
 refine pp rfl rfl (pr_extract rfl rfl) ?_;simp only [nf]
 refine pa (pa ?_);simp only [nf]
 refine plan_nil hH ?_
 clear hH
 intro w44 hH
 refine hK31 _ _ ?_
 (try clear hK31 K31)
 refine wp_ret ?_
 (try simp only [Exit.then, Exit.inBlock, ↓reduceIte, Nat.reduceEqDiff])
 refine BP.ret2 rfl rfl rfl ?_
 exact ⟨_, _, rfl, hH.chg, by assumption, hH.owned 2 rfl⟩

theorem label_calls (sv : Value) (nm : ByteArray) (sl : List UInt8) (n : Nat) (w : World) (hT : Tabs w) (hs : Sl w sv sl) (h64 : sl.length ≤ 64) (hnm : nm.size ≤ 249) (hn : n ≤ 8160) : Ret Tryd.prog 38 #[sv, .string nm, I64 n] w fun v w' => v = .string ⟨(labL sl nm [] n).toArray⟩ ∧ Chg [] w w' := by
 refine Ret.enter Tryd.func38 rfl ?_
 simp only [Tryd.ntmps38, fe, Nat.reduceAdd, Nat.reduceSub]
 have hH := Hp.start [] w
 refine wp_seq_k ?_
 intro K1 hK1
 refine wrt [.p 0] ?_
 refine pa ?_;simp only [nf]
 refine plan_nil hH ?_
 clear hH
 intro w2 hH
 refine hK1 _ _ ?_
 (try clear hK1 K1)
 refine wp_seq_k ?_
 intro K3 hK3
 refine wrt [.p 0, .p 1, .p 2, .x 3, .p 4, .p 5, .p 6, .p 7, .p 8] ?_
 refine pm (pm (pm ?_));simp only [nf]
 refine plan_callx rfl rfl hH cf52 (fun w' hH => label2_calls _ _ _ _ [] _ w' (hT.grow hH.chg) (hs.chg hH.chg) Sl.nil h64 hnm (by simp) hn) rfl (fun _ _ _ h => by obtain ⟨_, _, _, hg, _⟩ := h; exact hg) ?_
 clear hH
 intro w4 v5 w6 hH hp7
 obtain ⟨o8, cs9, rfl, hg, hO10, hfr⟩ := hp7
 replace hH := hH.callown hg hfr
 clear hg hfr
 (try simp only [nf, nh, Value.cells, arrB_set] at hH ⊢)
 (try simp only [nf])
 refine pm ?_;simp only [nf]
 refine pp rfl rfl (pr_extract rfl rfl) ?_;simp only [nf]
 refine pp rfl rfl (pr_extract rfl rfl) ?_;simp only [nf]
 refine pa (pa ?_);simp only [nf]
 refine plan_nil hH ?_
 clear hH
 intro w11 hH
 refine hK3 _ _ ?_
 (try clear hK3 K3)
 refine wp_seq_k ?_
 intro K12 hK12
 refine wrt [.p 0, .q 1, .p 2] ?_
 refine pm ?_;simp only [nf]
 refine pq rfl rfl (qr_b2s (OwnD.sl hH 0 rfl hO10) rfl Tryd.underlying22 Tryd.underlying5 Tryd.underlying9) ?_;simp only [nf]
 refine pa ?_;simp only [nf]
 refine plan_nil hH ?_
 clear hH
 intro w13 hH
 refine hK12 _ _ ?_
 (try clear hK12 K12)
 refine wp_ret ?_
 (try simp only [Exit.then, Exit.inBlock, ↓reduceIte, Nat.reduceEqDiff])
 refine BP.ret1 rfl rfl ?_
 exact ⟨rfl, hH.chg⟩

theorem bs20 (x0 x1 x2 x3 x4 x5 x6 x7 x8 x9 x10 x11 x12 x13 x14 x15 x16 x17 x18 x19 : UInt8) : ∀ w, (Instr.buildSlice 22 20 [(0, V8 x0), (1, V8 x1), (2, V8 x2), (3, V8 x3), (4, V8 x4), (5, V8 x5), (6, V8 x6), (7, V8 x7), (8, V8 x8), (9, V8 x9), (10, V8 x10), (11, V8 x11), (12, V8 x12), (13, V8 x13), (14, V8 x14), (15, V8 x15), (16, V8 x16), (17, V8 x17), (18, V8 x18), (19, V8 x19)].toArray).run Tryd.prog w = .ok (.slice (some ⟨w.heap.size, 0, none⟩) 20 20) (w.alloc (.cells (bytes [x0, x1, x2, x3, x4, x5, x6, x7, x8, x9, x10, x11, x12, x13, x14, x15, x16, x17, x18, x19]) 5)) := fun w => by kernel_rfl

def kKey (sl : List UInt8) : ByteArray := ⟨(labL sl ⟨#[113, 117, 105, 99, 32, 107, 101, 121]⟩ [] 16).toArray⟩
def kIv (sl : List UInt8) : ByteArray := ⟨(labL sl ⟨#[113, 117, 105, 99, 32, 105, 118]⟩ [] 12).toArray⟩
def kMask (sl : List UInt8) : ByteArray := ⟨(labL sl ⟨#[113, 117, 105, 99, 32, 104, 112]⟩ [] 16).toArray⟩
def kNext (sl : List UInt8) : ByteArray := ⟨(labL sl ⟨#[113, 117, 105, 99, 32, 107, 117]⟩ [] 32).toArray⟩
def kCli (sl : List UInt8) : ByteArray := ⟨(labL sl ⟨#[99, 108, 105, 101, 110, 116, 32, 105, 110]⟩ [] 32).toArray⟩
def kSrv (sl : List UInt8) : ByteArray := ⟨(labL sl ⟨#[115, 101, 114, 118, 101, 114, 32, 105, 110]⟩ [] 32).toArray⟩
def salt1 : List UInt8 := [56, 118, 44, 247, 245, 89, 52, 179, 77, 23, 154, 230, 164, 200, 12, 173, 204, 187, 127, 10]

theorem keysOf_calls (s : ByteArray) (w : World) (hT : Tabs w) (hs : s.size = 32) : Ret Tryd.prog 20 #[.string s] w fun v w' => v = .tuple #[.agg #[.string (kKey s.data.toList), .string (kIv s.data.toList), .string (kMask s.data.toList)], I64 (0 : Nat)] ∧ Chg [] w w' := by
 refine Ret.enter Tryd.func20 rfl ?_
 simp only [Tryd.ntmps20, fe, Nat.reduceAdd, Nat.reduceSub]
 have hH := Hp.start [] w
 refine wp_seq_k ?_
 intro K1 hK1
 refine wrt [.x 0, .p 1] ?_
 refine plan_alloc rfl rfl hH zc37 ?_
 clear hH
 intro b2 w3 hH
 (try simp only [nf, nh, Value.cells, arrB_set] at hH ⊢)
 refine pka 0 ?_;simp only [nf]
 refine plan_nil hH ?_
 clear hH
 intro w4 hH
 refine hK1 _ _ ?_
 (try clear hK1 K1)
 refine wp_seq_k ?_
 intro K5 hK5
 refine wp_seq_k ?_
 intro K6 hK6
 refine wrt [.p 0, .p 1, .p 2] ?_
 refine pm ?_;simp only [nf]
 refine pp rfl rfl (pr_len_str rfl Tryd.underlying9) ?_;simp only [nf]
 refine pp rfl rfl (pr_bin rfl rfl (by first | exact bin_neq_n (n := 32)  | exact bin_neq_i)) ?_;simp only [nf]
 refine plan_nil hH ?_
 clear hH
 intro w7 hH
 refine hK6 _ _ ?_
 (try clear hK6 K6)
 refine wp_cond_false (by show BV _ = _; rw [hs]; rfl) ?_
 refine wp_skip ?_
 refine hK5 _ _ ?_
 (try clear hK5 K5)
 refine wp_seq_k ?_
 intro K8 hK8
 refine wrt [.p 0, .x 1, .p 2] ?_
 refine pm ?_;simp only [nf]
 refine plan_s2b rfl rfl hH rfl Tryd.underlying9 Tryd.underlying22 Tryd.underlying5 ?_
 clear hH
 intro b9 cap10 cs11 w12 hO13 hH
 (try simp only [nf] at hH ⊢)
 (try simp only [nf, nh, Value.cells, arrB_set] at hH ⊢)
 refine pa ?_;simp only [nf]
 refine plan_nil hH ?_
 clear hH
 intro w14 hH
 refine hK8 _ _ ?_
 (try clear hK8 K8)
 refine wp_seq_k ?_
 intro K15 hK15
 refine wrt [.p 0, .q 1, .p 2, .q 3, .p 4, .q 5, .p 6, .e 7, .p 8] ?_
 refine pm ?_;simp only [nf]
 refine pq rfl rfl (qr_call cf38 (fun w' hw => label_calls _ _ _ _ w' (hT.grow (hH.chg.trans hw)) ((OwnC.sl hH 1 rfl hO13).chg hw) (by first | assumption | omega | (simp <;> omega)) (by first | decide | omega | (simp <;> omega)) (by first | decide | omega)) rfl) ?_;simp only [nf]
 refine pm ?_;simp only [nf]
 refine pq rfl rfl (qr_call cf38 (fun w' hw => label_calls _ _ _ _ w' (hT.grow (hH.chg.trans hw)) ((OwnC.sl hH 1 rfl hO13).chg hw) (by first | assumption | omega | (simp <;> omega)) (by first | decide | omega | (simp <;> omega)) (by first | decide | omega)) rfl) ?_;simp only [nf]
 refine pm ?_;simp only [nf]
 refine pq rfl rfl (qr_call cf38 (fun w' hw => label_calls _ _ _ _ w' (hT.grow (hH.chg.trans hw)) ((OwnC.sl hH 1 rfl hO13).chg hw) (by first | assumption | omega | (simp <;> omega)) (by first | decide | omega | (simp <;> omega)) (by first | decide | omega)) rfl) ?_;simp only [nf]
 refine pp rfl rfl (pr_build (by rfl) (bd37_0_1_2 _ _ _)) ?_;simp only [nf]
 refine plan_storeW 0 rfl rfl hH rfl rfl rfl (by simp [Value.oneCell']) sz37 (by simp) (by simp) ?_
 clear hH
 intro w16 hH
 (try simp only [nf, nh, Value.cells, arrB_set] at hH ⊢)
 refine pka 0 ?_;simp only [nf]
 refine plan_nil hH ?_
 clear hH
 intro w17 hH
 refine hK15 _ _ ?_
 (try clear hK15 K15)
 refine wp_ret ?_
 (try simp only [Exit.then, Exit.inBlock, ↓reduceIte, Nat.reduceEqDiff])
 refine BP.retct rfl rfl rfl (hH.blk 0 rfl) Tryd.underlying37 rfl sz37 (by simp) ?_
 exact ⟨rfl, hH.chg⟩

theorem keysNext_calls (s : ByteArray) (w : World) (hT : Tabs w) (hs : s.size = 32) : Ret Tryd.prog 19 #[.string s] w fun v w' => v = .tuple #[.string (kNext s.data.toList), I64 (0 : Nat)] ∧ Chg [] w w' := by
 refine Ret.enter Tryd.func19 rfl ?_
 simp only [Tryd.ntmps19, fe, Nat.reduceAdd, Nat.reduceSub]
 have hH := Hp.start [] w
 refine wp_seq_k ?_
 intro K1 hK1
 refine wrt [.p 0, .p 1] ?_
 refine pa (pka 0 ?_);simp only [nf]
 refine plan_nil hH ?_
 clear hH
 intro w2 hH
 refine hK1 _ _ ?_
 (try clear hK1 K1)
 refine wp_seq_k ?_
 intro K3 hK3
 refine wp_seq_k ?_
 intro K4 hK4
 refine wrt [.p 0, .p 1, .p 2] ?_
 refine pm ?_;simp only [nf]
 refine pp rfl rfl (pr_len_str rfl Tryd.underlying9) ?_;simp only [nf]
 refine pp rfl rfl (pr_bin rfl rfl (by first | exact bin_neq_n (n := 32)  | exact bin_neq_i)) ?_;simp only [nf]
 refine plan_nil hH ?_
 clear hH
 intro w5 hH
 refine hK4 _ _ ?_
 (try clear hK4 K4)
 refine wp_cond_false (by show BV _ = _; rw [hs]; rfl) ?_
 refine wp_skip ?_
 refine hK3 _ _ ?_
 (try clear hK3 K3)
 refine wp_seq_k ?_
 intro K6 hK6
 refine wrt [.p 0, .x 1, .q 2, .p 3, .p 4] ?_
 refine pm ?_;simp only [nf]
 refine plan_s2b rfl rfl hH rfl Tryd.underlying9 Tryd.underlying22 Tryd.underlying5 ?_
 clear hH
 intro b7 cap8 cs9 w10 hO11 hH
 (try simp only [nf] at hH ⊢)
 (try simp only [nf, nh, Value.cells, arrB_set] at hH ⊢)
 refine pq rfl rfl (qr_call cf38 (fun w' hw => label_calls _ _ _ _ w' (hT.grow (hH.chg.trans hw)) ((OwnC.sl hH 0 rfl hO11).chg hw) (by first | assumption | omega | (simp <;> omega)) (by first | decide | omega | (simp <;> omega)) (by first | decide | omega)) rfl) ?_;simp only [nf]
 refine pa (pka 0 ?_);simp only [nf]
 refine plan_nil hH ?_
 clear hH
 intro w12 hH
 refine hK6 _ _ ?_
 (try clear hK6 K6)
 refine wp_ret ?_
 (try simp only [Exit.then, Exit.inBlock, ↓reduceIte, Nat.reduceEqDiff])
 refine BP.ret2 rfl rfl rfl ?_
 exact ⟨rfl, hH.chg⟩

theorem keysFirst_calls (s : ByteArray) (w : World) (hT : Tabs w) (hs : s.size ≤ 20) : Ret Tryd.prog 18 #[.string s] w fun v w' => v = .tuple #[.string (kCli (macL salt1 s.data.toList)), .string (kSrv (macL salt1 s.data.toList)), I64 (0 : Nat)] ∧ Chg [] w w' := by
 have hsl : s.data.toList.length = s.size := by simp
 refine Ret.enter Tryd.func18 rfl ?_
 simp only [Tryd.ntmps18, fe, Nat.reduceAdd, Nat.reduceSub]
 have hH := Hp.start [] w
 refine wp_seq_k ?_
 intro K1 hK1
 refine wrt [.p 0, .p 1, .p 2] ?_
 refine pa (pa (pka 0 ?_));simp only [nf]
 refine plan_nil hH ?_
 clear hH
 intro w2 hH
 refine hK1 _ _ ?_
 (try clear hK1 K1)
 refine wp_seq_k ?_
 intro K3 hK3
 refine wp_seq_k ?_
 intro K4 hK4
 refine wrt [.p 0, .p 1, .p 2] ?_
 refine pm ?_;simp only [nf]
 refine pp rfl rfl (pr_len_str rfl Tryd.underlying9) ?_;simp only [nf]
 refine pp rfl rfl (pr_bin rfl rfl (by first | exact bin_gtr_n (n := 20)  | exact bin_gtr_i)) ?_;simp only [nf]
 refine plan_nil hH ?_
 clear hH
 intro w5 hH
 refine hK4 _ _ ?_
 (try clear hK4 K4)
 refine wp_cond_false (by show BV _ = _; exact congrArg BV (decide_eq_false (by omega))) ?_
 refine wp_skip ?_
 refine hK3 _ _ ?_
 (try clear hK3 K3)
 refine wp_seq_k ?_
 intro K6 hK6
 refine wrt [.x 0, .e 1, .p 2, .x 3, .x 4, .p 5] ?_
 refine plan_buildSlice rfl rfl hH Tryd.underlying22 (by rfl) (bs20 56 118 44 247 245 89 52 179 77 23 154 230 164 200 12 173 204 187 127 10) ?_
 clear hH
 intro b7 w8 hH
 (try simp only [nf, nh, Value.cells, arrB_set] at hH ⊢)
 refine plan_mark 0 rfl rfl hH rfl rfl Tryd.underlying22 Tryd.underlying5 ?_
 clear hH
 intro w9 hH
 (try simp only [nf] at hH ⊢)
 (try simp only [nf, nh, Value.cells, arrB_set] at hH ⊢)
 refine pm ?_;simp only [nf]
 refine plan_s2b rfl rfl hH rfl Tryd.underlying9 Tryd.underlying22 Tryd.underlying5 ?_
 clear hH
 intro b10 cap11 cs12 w13 hO14 hH
 (try simp only [nf] at hH ⊢)
 (try simp only [nf, nh, Value.cells, arrB_set] at hH ⊢)
 refine plan_callx rfl rfl hH cf37 (fun w' hH => extract_calls _ _ _ _ w' (hT.grow hH.chg) (OwnC.sl hH 0 rfl (OwnC.of_bytes rfl)) (OwnC.sl hH 1 rfl hO14) (by first | assumption | omega | (simp <;> omega)) (by first | omega | (simp <;> omega))) rfl (fun _ _ _ h => by obtain ⟨_, _, _, _, hg, _⟩ := h; exact hg) ?_
 clear hH
 intro w15 v16 w17 hH hp18
 obtain ⟨o19, cap20, cs21, rfl, hg, hO22, hfr⟩ := hp18
 replace hH := hH.callown hg hfr
 clear hg hfr
 (try simp only [nf, nh, Value.cells, arrB_set] at hH ⊢)
 (try simp only [nf])
 refine pa ?_;simp only [nf]
 refine plan_nil hH ?_
 clear hH
 intro w23 hH
 refine hK6 _ _ ?_
 (try clear hK6 K6)
 refine wp_seq_k ?_
 intro K24 hK24
 refine wrt [.p 0, .q 1, .p 2, .q 3, .p 4, .p 5, .p 6] ?_
 refine pm ?_;simp only [nf]
 refine pq rfl rfl (qr_call cf38 (fun w' hw => label_calls _ _ _ _ w' (hT.grow (hH.chg.trans hw)) ((OwnC.sl hH 2 rfl hO22).chg hw) (by first | assumption | omega | (simp <;> omega)) (by first | decide | omega | (simp <;> omega)) (by first | decide | omega)) rfl) ?_;simp only [nf]
 refine pm ?_;simp only [nf]
 refine pq rfl rfl (qr_call cf38 (fun w' hw => label_calls _ _ _ _ w' (hT.grow (hH.chg.trans hw)) ((OwnC.sl hH 2 rfl hO22).chg hw) (by first | assumption | omega | (simp <;> omega)) (by first | decide | omega | (simp <;> omega)) (by first | decide | omega)) rfl) ?_;simp only [nf]
 refine pa (pa (pka 0 ?_));simp only [nf]
 refine plan_nil hH ?_
 clear hH
 intro w25 hH
 refine hK24 _ _ ?_
 (try clear hK24 K24)
 refine wp_ret ?_
 (try simp only [Exit.then, Exit.inBlock, ↓reduceIte, Nat.reduceEqDiff])
 refine BP.ret3 rfl rfl rfl rfl ?_
 exact ⟨rfl, hH.chg⟩

end Go.Proofs.YtmoaddicejohgaaDoor
