/- Walks of sha: New, Write, Sum, Mac, where sha's variables hold what the program's text lays. No further conditions. -/
import Derived.Test.YtmoaddicejohgaaDoorSha0
import Derived.Test.YtmoaddicejohgaaDoorOwnD
import Derived.Test.YtmoaddicejohgaaDoorAesK
set_option linter.unusedSimpArgs false
set_option linter.unusedVariables false
set_option maxRecDepth 100000
set_option maxHeartbeats 4000000
namespace Go.Proofs.YtmoaddicejohgaaDoor
open Go
open List (getD_cons_zero getD_cons_succ set_cons_zero set_cons_succ)

def shaReg (l : List UInt8) : Nat → Nat → UInt32
  | 0 => shaH
  | k + 1 => shaB (shaReg l k) fun i => l.getD (64 * k + i) 0
theorem shaReg_succ (l : List UInt8) (k : Nat) : shaB (shaReg l k) (fun i => (l.drop (64 * k)).getD i 0) = shaReg l (k + 1) := by
  show _ = shaB (shaReg l k) fun i => l.getD (64 * k + i) 0
  congr 1
  funext i
  simp only [List.getD, List.getElem?_drop]
theorem shaW_congr {p q : Nat → UInt8} (h : ∀ i, i < 64 → p i = q i) : ∀ n, n < 64 → shaW p n = shaW q n := by
  intro n
  induction n using Nat.strongRecOn with
  | ind n ih =>
    intro hn
    by_cases h16 : n < 16
    · rw [shaW_lo _ h16, shaW_lo _ h16]
      unfold shaWord
      rw [h _ (by omega), h _ (by omega), h _ (by omega), h _ (by omega)]
    · rw [shaW_hi _ h16, shaW_hi _ h16, ih _ (by omega) (by omega), ih _ (by omega) (by omega), ih _ (by omega) (by omega), ih _ (by omega) (by omega)]
theorem shaR_congr {r w w' : Nat → UInt32} : ∀ n, (∀ i, i < n → w i = w' i) → shaR r w n = shaR r w' n
  | 0, _ => rfl
  | n + 1, h => by
    unfold shaR
    rw [shaR_congr n fun i hi => h i (by omega), h n (by omega)]
theorem shaB_congr {r : Nat → UInt32} {p q : Nat → UInt8} (h : ∀ i, i < 64 → p i = q i) : shaB r p = shaB r q := by
  unfold shaB
  rw [shaR_congr 64 fun i hi => shaW_congr h i hi]
theorem shaReg_app (l bl : List UInt8) : ∀ k, 64 * k ≤ l.length → shaReg (l ++ bl) k = shaReg l k
  | 0, _ => rfl
  | k + 1, h => by
    unfold shaReg
    rw [shaReg_app l bl k (by omega)]
    refine shaB_congr fun i hi => ?_
    simp only [List.getD, List.getElem?_append]
    rw [if_pos (by omega)]
def restL (l : List UInt8) : List UInt8 := l.drop (64 * (l.length / 64))
/-- The cells of a Hash. -/
def hashC (r : Nat → UInt32) (v : Value) (n : Nat) : Array Value := arr32 8 r ++ #[v, I64 (n : Nat)]
@[simp] theorem hashC_size (r : Nat → UInt32) (v : Value) (n : Nat) : (hashC r v n).size = 10 := by simp [hashC]
theorem hashC_rest {r : Nat → UInt32} {v : Value} {n : Nat} : (hashC r v n)[8]? = some v := by
  unfold hashC
  rw [Array.getElem?_append_right (by simp)]; simp
theorem hashC_n {r : Nat → UInt32} {v : Value} {n : Nat} : (hashC r v n)[9]? = some (I64 (n : Nat)) := by
  unfold hashC
  rw [Array.getElem?_append_right (by simp)]; simp
theorem hashC_r {r : Nat → UInt32} {v : Value} {n i : Nat} (h : i < 8) : (hashC r v n)[i]? = some (V32 (r i)) := by
  unfold hashC
  rw [Array.getElem?_append_left (by simpa using h), arr32_get h]
theorem hashC_ext {r : Nat → UInt32} {v : Value} {n : Nat} : (hashC r v n).extract 0 (0 + 8) = arr32 8 r := by
  refine tabV_ext (by simp) fun i hi => ?_
  rw [Array.getElem?_extract, if_pos (by simp; omega), Nat.zero_add, hashC_r hi]
theorem hashC_eq {cs : Array Value} {r : Nat → UInt32} {v : Value} {n : Nat} (hs : cs.size = 10) (h : ∀ i, i < 8 → cs[i]? = some (V32 (r i))) (h8 : cs[8]? = some v) (h9 : cs[9]? = some (I64 (n : Nat))) : cs = hashC r v n := by
  apply Array.ext_getElem?
  intro i
  by_cases h1 : i < 8
  · rw [h i h1, hashC_r h1]
  · by_cases h2 : i = 8
    · subst h2; rw [h8, hashC_rest]
    · by_cases h3 : i = 9
      · subst h3; rw [h9, hashC_n]
      · rw [Array.getElem?_eq_none (by omega), Array.getElem?_eq_none (by rw [hashC_size]; omega)]
theorem hashC_set8 (r : Nat → UInt32) (v u : Value) (n : Nat) : (hashC r v n).setIfInBounds 8 u = hashC r u n := by
  refine hashC_eq (by simp) (fun i hi => ?_) ?_ ?_
  · rw [Array.getElem?_setIfInBounds, if_neg (by omega), hashC_r hi]
  · rw [Array.getElem?_setIfInBounds, if_pos rfl, if_pos (by simp)]
  · rw [Array.getElem?_setIfInBounds, if_neg (by omega), hashC_n]
theorem hashC_set9 (r : Nat → UInt32) (v : Value) (n m : Nat) : (hashC r v n).setIfInBounds 9 (I64 (m : Nat)) = hashC r v m := by
  refine hashC_eq (by simp) (fun i hi => ?_) ?_ ?_
  · rw [Array.getElem?_setIfInBounds, if_neg (by omega), hashC_r hi]
  · rw [Array.getElem?_setIfInBounds, if_neg (by omega), hashC_rest]
  · rw [Array.getElem?_setIfInBounds, if_pos rfl, if_pos (by simp)]
theorem hashC_spl (r q : Nat → UInt32) (v : Value) (n : Nat) : splice (hashC r v n) 0 (arr32 8 q) = hashC q v n := by
  have hs : 0 + (arr32 8 q).size ≤ (hashC r v n).size := by simp
  refine hashC_eq (by rw [splice_size hs]; simp) (fun i hi => ?_) ?_ ?_
  · rw [splice_get hs, if_pos (by simp; omega), Nat.sub_zero, arr32_get hi]
  · rw [splice_get hs, if_neg (by simp), hashC_rest]
  · rw [splice_get hs, if_neg (by simp), hashC_n]
theorem Tabs.lt {w : World} (h : Tabs w) : 2 ≤ w.heap.size := by
  have := block_lt_of_cell (h.2 0 (by decide))
  exact this
theorem Hp.start2 {w : World} {b : Nat} {t t2 : TypeId} {cs cs2 : Array Value} {o : Option Nat} (h : Blk w b t cs) (ho : ∀ x, o = some x → Blk w x t2 cs2 ∧ x ≠ b) : Hp (b :: o.toList) w w [(some b, t, cs), (o, t2, cs2)] := by
  have h1 : Hp (b :: o.toList) w w [(some b, t, cs)] := (Hp.start (b :: o.toList) w).add (some b, t, cs) (fun b' hb' => by cases hb'; exact ⟨.inr (by simp), h⟩) (by simp)
  refine h1.add (o, t2, cs2) (fun x hx => ⟨.inr ?_, (ho x hx).1⟩) (fun e he x hx hxe => ?_)
  · have hx : o = some x := hx
    subst hx; simp
  · simp only [List.mem_singleton] at he
    subst he
    cases hxe
    exact (ho _ hx).2 rfl
/-- A call that writes to one block, and to a slice's. -/
theorem Hp.callw2 {S : List Nat} {w0 w w' : World} {L : List Own} (h : Hp S w0 w L) (i j : Nat) {b : Nat} {t t2 : TypeId} {cs cs' cs2 cs2' : Array Value} {o o' : Option Nat} (hi : L[i]? = some (some b, t, cs)) (hj : L[j]? = some (o, t2, cs2)) (hij : i ≠ j)
    (hc : Chg (b :: o.toList) w w') (hb : Blk w' b t cs') (ho : ∀ x, o' = some x → Blk w' x t2 cs2' ∧ x ≠ b ∧ (w.heap.size ≤ x ∨ x ∈ o.toList)) : Hp S w0 w' ((L.set i (some b, t, cs')).set j (o', t2, cs2')) where
  chg := h.chg.trans' hc (fun x hx hlt => by
    rcases List.mem_cons.1 hx with rfl | hx
    · rcases h.mine i hi with h1 | h1
      · omega
      · exact h1
    · have hx : o = some x := by cases o <;> simp_all
      subst hx
      rcases h.mine j hj with h1 | h1
      · omega
      · exact h1)
  own x hx y hy := by
    obtain ⟨m, hm⟩ := List.mem_iff_getElem?.1 hx
    rw [List.getElem?_set] at hm
    by_cases e1 : j = m
    · rw [if_pos e1] at hm
      split at hm
      · cases hm
        have hy : o' = some y := hy
        obtain ⟨h1, h2, h3⟩ := ho y hy
        refine ⟨?_, h1⟩
        rcases h3 with h3 | h3
        · have := h.chg.size; exact .inl (by omega)
        · have : o = some y := by cases o <;> simp_all
          subst this
          exact h.mine j hj
      · cases hm
    · rw [if_neg e1, List.getElem?_set] at hm
      by_cases e2 : i = m
      · rw [if_pos e2] at hm
        split at hm
        · cases hm; cases hy; exact ⟨h.mine i hi, hb⟩
        · cases hm
      · rw [if_neg e2] at hm
        have hmem := List.mem_of_getElem? hm
        obtain ⟨h1, h2⟩ := h.own x hmem y hy
        refine ⟨h1, hc.blk h2 fun hin => ?_⟩
        rcases List.mem_cons.1 hin with rfl | hin
        · exact e2 (h.apart i m y (by rw [hi]; rfl) (by rw [hm]; exact hy))
        · have : o = some y := by cases o <;> simp_all
          subst this
          exact e1 (h.apart j m y (by rw [hj]; rfl) (by rw [hm]; exact hy))
  apart m m' y hm hm' := by
    have key : ∀ q : Nat, (((L.set i (some b, t, cs')).set j (o', t2, cs2'))[q]?).bind Own.at = some y → (q = j ∧ o' = some y) ∨ (q ≠ j ∧ q = i ∧ b = y) ∨ (q ≠ j ∧ q ≠ i ∧ (L[q]?).bind Own.at = some y) := by
      intro q hq
      rw [List.getElem?_set] at hq
      by_cases e1 : j = q
      · rw [if_pos e1] at hq
        split at hq
        · exact .inl ⟨e1.symm, hq⟩
        · simp at hq
      · rw [if_neg e1, List.getElem?_set] at hq
        by_cases e2 : i = q
        · rw [if_pos e2] at hq
          split at hq
          · exact .inr (.inl ⟨fun h => e1 h.symm, e2.symm, by simpa [Own.at] using hq⟩)
          · simp at hq
        · rw [if_neg e2] at hq
          exact .inr (.inr ⟨fun h => e1 h.symm, fun h => e2 h.symm, hq⟩)
    have old : ∀ q, q ≠ j → (L[q]?).bind Own.at = some y → o' = some y → False := by
      intro q hqj hq hoy
      obtain ⟨h1, h2, h3⟩ := ho y hoy
      obtain ⟨x, hx, hxb⟩ := Option.bind_eq_some_iff.1 hq
      rcases h3 with h3 | h3
      · have := h.lt (List.mem_of_getElem? hx) hxb; omega
      · have : o = some y := by cases o <;> simp_all
        subst this
        exact hqj (h.apart q j y hq (by rw [hj]; rfl))
    rcases key m hm with ⟨a1, a2⟩ | ⟨a0, a1, a2⟩ | ⟨a0, a1, a2⟩ <;> rcases key m' hm' with ⟨c1, c2⟩ | ⟨c0, c1, c2⟩ | ⟨c0, c1, c2⟩
    · omega
    · exact ((ho y a2).2.1 c2.symm).elim
    · exact (old m' c0 c2 a2).elim
    · exact ((ho y c2).2.1 a2.symm).elim
    · omega
    · exact (c1 (h.apart m' i y c2 (by rw [hi]; exact congrArg some a2))).elim
    · exact (old m a0 a2 c2).elim
    · exact (a1 (h.apart m i y a2 (by rw [hi]; exact congrArg some c2))).elim
    · exact h.apart m m' y a2 c2

/-- The cells of a Hash that took these bytes. -/
def hashL (l : List UInt8) (v : Value) : Array Value := hashC (shaReg l (l.length / 64)) v l.length
@[simp] theorem hashL_size (l : List UInt8) (v : Value) : (hashL l v).size = 10 := by simp [hashL]
theorem restL_app (l bl : List UInt8) : (l ++ bl).drop (64 * (l.length / 64)) = restL l ++ bl := by
  rw [List.drop_append_of_le_length (by omega)]; rfl
theorem restL_len (l : List UInt8) : (restL l).length = l.length % 64 := by
  unfold restL; rw [List.length_drop]; omega
theorem OwnD.next {o : Option Nat} {f m c : Nat} {cs : Array Value} {l : List UInt8} {k : Nat} (h : OwnD o f m c cs (l.drop (64 * k))) (hm : 64 ≤ m) : OwnD o (cutO f 64 c) (m - 64) (c - 64) cs (l.drop (64 * (k + 1))) := by
  have h2 := OwnD.cutl h hm
  rw [List.drop_drop] at h2
  first | exact h2 | (rw [Nat.add_comm] at h2; exact h2)
theorem Hp.no {w0 w : World} {L : List Own} (h : Hp [] w0 w L) (hT : Tabs w0) (i j : Nat) {b : Nat} {t t2 : TypeId} {cs cs2 : Array Value} {o : Option Nat} (hi : L[i]? = some (some b, t, cs)) (hj : L[j]? = some (o, t2, cs2)) {g : Nat} (hg : g < 2) : g ∉ b :: o.toList := by
  have hl := hT.lt
  intro hin
  rcases List.mem_cons.1 hin with rfl | hin
  · have := (h.mine i hi).resolve_right (by simp); omega
  · have : o = some g := by cases o <;> simp_all
    subst this
    have := (h.mine j hj).resolve_right (by simp); omega
theorem Hp.sure2 {w0 w w' : World} {L : List Own} (h : Hp [] w0 w L) (i j : Nat) {b : Nat} {t t2 : TypeId} {cs cs2 : Array Value} {o : Option Nat} (hi : L[i]? = some (some b, t, cs)) (hj : L[j]? = some (o, t2, cs2)) (hc : Chg (b :: o.toList) w w') : Chg [] w0 w' :=
  h.chg.trans' hc fun x hx hlt => by
    rcases List.mem_cons.1 hx with rfl | hx
    · have := (h.mine i hi).resolve_right (by simp); omega
    · have hx : o = some x := by cases o <;> simp_all
      subst hx
      have := (h.mine j hj).resolve_right (by simp); omega
theorem Hp.keep2 {w0 w w' : World} {L : List Own} (h : Hp [] w0 w L) (i j k : Nat) {b : Nat} {t t2 : TypeId} {cs cs2 : Array Value} {o : Option Nat} {e : Own} (hi : L[i]? = some (some b, t, cs)) (hj : L[j]? = some (o, t2, cs2)) (hk : L[k]? = some e) (hki : k ≠ i) (hkj : k ≠ j) (hc : Chg (b :: o.toList) w w') : Hp [] w0 w' [e] where
  chg := h.sure2 i j hi hj hc
  own x hx y hy := by
    simp only [List.mem_singleton] at hx
    subst hx
    obtain ⟨h1, h2⟩ := h.own x (List.mem_of_getElem? hk) y hy
    refine ⟨h1, hc.blk h2 fun hin => ?_⟩
    rcases List.mem_cons.1 hin with rfl | hin
    · exact hki (h.apart k i y (by rw [hk]; exact hy) (by rw [hi]; rfl))
    · have : o = some y := by cases o <;> simp_all
      subst this
      exact hkj (h.apart k j y (by rw [hk]; exact hy) (by rw [hj]; rfl))
  apart m m' y hm hm' := by
    have key : ∀ q : Nat, (([e] : List Own)[q]?).bind Own.at = some y → q = 0 := by
      intro q hq
      cases q with
      | zero => rfl
      | succ q => simp at hq
    rw [key m hm, key m' hm']
theorem Hp.addnone {S : List Nat} {w0 w : World} {L : List Own} (h : Hp S w0 w L) (t : TypeId) (cs : Array Value) : Hp S w0 w (L ++ [(none, t, cs)]) :=
  h.add (none, t, cs) (fun b hb => by cases hb) (fun e he x hx hxe => by cases hx)

theorem shaNew_calls (w : World) (hT : Tabs w) : Ret Tryd.prog 68 #[] w fun v w' => ∃ b, v = PT b 0 ∧ Chg [] w w' ∧ w.heap.size ≤ b ∧ Blk w' b 127 (hashL [] (ownO none 0 0 0)) := by
 refine Ret.enter Tryd.func68 rfl ?_
 simp only [Tryd.ntmps68, fe, Nat.reduceAdd, Nat.reduceSub]
 have hH := Hp.start [] w
 refine wp_seq_k ?_
 intro K1 hK1
 refine wrt [.p 0] ?_
 refine pa ?_;simp only [nf]
 refine plan_nil hH ?_
 clear hH
 intro w2 hH
 refine hK1 _ _ ?_
 (try clear hK1 K1)
 refine wp_seq_k ?_
 intro K3 hK3
 refine wrt [.q 0, .p 1, .x 2, .p 3] ?_
 refine pq rfl rfl (qr_celN (hT.grow hH.chg).1 rfl Tryd.underlying125 rfl sz125) ?_;simp only [nf]
 refine plan_p (v := .agg (hashL [] (ownO none 0 0 0))) rfl rfl (fun w => by kernel_rfl) ?_
 (try simp only [nf])
 refine plan_box rfl rfl hH rfl ?_
 clear hH
 intro b4 w5 hH
 (try simp only [nf, nh, Value.cells, arrB_set] at hH ⊢)
 refine pa ?_;simp only [nf]
 refine plan_nil hH ?_
 clear hH
 intro w6 hH
 refine hK3 _ _ ?_
 (try clear hK3 K3)
 refine wp_ret ?_
 (try simp only [Exit.then, Exit.inBlock, ↓reduceIte, Nat.reduceEqDiff])
 refine BP.ret1 rfl rfl ?_
 exact ⟨_, rfl, hH.chg, (hH.mine 0 rfl).resolve_right (by simp), hH.blk 0 rfl⟩

theorem shaWrite_calls (bh : Nat) (o : Option Nat) (off n cap : Nat) (cs : Array Value) (l bl : List UInt8) (bv : Value) (w : World) (hT : Tabs w) (h0 : 0 ∉ bh :: o.toList) (h1 : 1 ∉ bh :: o.toList)
    (hb : Blk w bh 127 (hashL l (ownO o off n cap))) (hO : OwnD o off n cap cs (restL l)) (hc : ∀ x, o = some x → Blk w x 5 cs ∧ x ≠ bh) (hs : ∀ w', Chg (bh :: o.toList) w w' → Sl w' bv bl) (hm : l.length + bl.length ≤ 140737488355328) :
    Ret Tryd.prog 69 #[PT bh 0, bv] w fun v w' => v = .tuple #[] ∧ ∃ o' f' m' c' cs', Chg (bh :: o.toList) w w' ∧ Blk w' bh 127 (hashL (l ++ bl) (ownO o' f' m' c')) ∧ OwnD o' f' m' c' cs' (restL (l ++ bl)) ∧ ∀ x, o' = some x → Blk w' x 5 cs' ∧ x ≠ bh ∧ (w.heap.size ≤ x ∨ x ∈ o.toList) := by
 unfold hashL at hb
 have hrl := hO.len
 rw [restL_len] at hrl
 refine Ret.enter Tryd.func69 rfl ?_
 simp only [Tryd.ntmps69, fe, Nat.reduceAdd, Nat.reduceSub]
 have hH := Hp.start2 hb hc
 refine wp_seq_k ?_
 intro K1 hK1
 refine wp_seq_k ?_
 intro K2 hK2
 refine wrt [.p 0, .p 1] ?_
 refine pm ?_;simp only [nf]
 refine pp rfl rfl (pr_bin rfl rfl (bin_eql_pn Tryd.underlying119)) ?_;simp only [nf]
 refine plan_nil hH ?_
 clear hH
 intro w3 hH
 refine hK2 _ _ ?_
 (try clear hK2 K2)
 refine wp_cond_false rfl ?_
 refine wp_skip ?_
 refine hK1 _ _ ?_
 (try clear hK1 K1)
 refine wp_seq_k ?_
 intro K4 hK4
 refine wrt [.p 0, .p 1, .p 2, .q 3, .p 4, .p 5, .p 6, .p 7, .p 8, .e 9] ?_
 refine pm ?_;simp only [nf]
 refine pp rfl rfl (pr_nilCheck rfl) ?_;simp only [nf]
 refine pp rfl rfl (pr_fieldAddr 9 rfl Tryd.underlying127 rfl rfl sz3) ?_;simp only [nf]
 refine pq rfl rfl (qr_load1 rfl Tryd.underlying3 rfl ((hH.blk 0 rfl).cell hashC_n)) ?_;simp only [nf]
 refine pm ?_;simp only [nf]
 refine pp rfl rfl (pr_len_Sl (hs _ hH.chg) rfl Tryd.underlying22) ?_;simp only [nf]
 refine pp rfl rfl (pr_bin rfl rfl (by first | exact bin_add_n (by omega) | exact bin_add_i (by omega) (by omega))) ?_;simp only [nf]
 refine pp rfl rfl (pr_nilCheck rfl) ?_;simp only [nf]
 refine pp rfl rfl (pr_fieldAddr 9 rfl Tryd.underlying127 rfl rfl sz3) ?_;simp only [nf]
 refine plan_store1 0 rfl rfl hH rfl rfl rfl rfl sz3 (by simp <;> omega) ?_
 clear hH
 intro w5 hH
 (try simp only [nf, nh, Value.cells, arrB_set, hashC_set8, hashC_set9, hashC_spl] at hH ⊢)
 refine plan_nil hH ?_
 clear hH
 intro w6 hH
 refine hK4 _ _ ?_
 (try clear hK4 K4)
 refine wp_seq_k ?_
 intro K7 hK7
 refine wrt [.p 0, .p 1, .p 2, .p 3, .q 4, .p 5, .e 6, .p 7, .p 8, .e 9] ?_
 refine pm (pm ?_);simp only [nf]
 refine pp rfl rfl (pr_nilCheck rfl) ?_;simp only [nf]
 refine pp rfl rfl (pr_fieldAddr 8 rfl Tryd.underlying127 rfl rfl sz22) ?_;simp only [nf]
 refine pq rfl rfl (qr_load1 rfl Tryd.underlying22 rfl ((hH.blk 0 rfl).cell hashC_rest)) ?_;simp only [nf]
 refine pm ?_;simp only [nf]
 refine plan_appendD 1 rfl rfl hH rfl hO (fun w' hH => ((hs _ hH.chg)).src) rfl rfl Tryd.underlying22 Tryd.underlying22 (.inl ⟨_, rfl⟩) sz5 bz5 ze5 (by first | omega | (simp <;> omega)) ?_
 clear hH
 intro o8 off9 cap10 cs11 w12 hO13 hH
 (try simp only [nf] at hH ⊢)
 (try simp only [nf, nh, Value.cells, arrB_set, hashC_set8, hashC_set9, hashC_spl] at hH ⊢)
 refine pp rfl rfl (pr_nilCheck rfl) ?_;simp only [nf]
 refine pp rfl rfl (pr_fieldAddr 8 rfl Tryd.underlying127 rfl rfl sz22) ?_;simp only [nf]
 refine plan_store1 0 rfl rfl hH rfl rfl rfl rfl sz22 (by simp <;> omega) ?_
 clear hH
 intro w14 hH
 (try simp only [nf, nh, Value.cells, arrB_set, hashC_set8, hashC_set9, hashC_spl] at hH ⊢)
 refine plan_nil hH ?_
 clear hH
 intro w15 hH
 refine hK7 _ _ ?_
 (try clear hK7 K7)
 refine wp_block ?_
 refine wp_loopT [] [24, 25, 26, 27, 28, 29, 30, 31, 32, 33, 34, 35, 36, 37, 38, 39, 40, 41, 42, 43, 44, 45, 46, 47, 48, 49] (fun (n16 : Nat) (vs : List Value) (w' : World) => ∃ (k f m c : Nat), vs = [] ∧ Hp (bh :: o.toList) w w' [(some bh, 127, hashC (shaReg (l ++ bl) k) (ownO o8 f m c) (l.length + bl.length)), (o8, 5, cs11)] ∧ n16 = m ∧ 64 * k ≤ l.length + bl.length ∧ OwnD o8 f m c cs11 ((l ++ bl).drop (64 * k))) (n + bl.length) (by kernel_rfl) ?_ ?_
 ·
  simp only [ga]
  refine ⟨l.length / 64, off9, n + bl.length, cap10, trivial, ?_, rfl, ?_, ?_⟩
  ·
   rw [shaReg_app _ _ _ (by omega)]
   exact hH
  · first | omega | (omega)
  · first | omega | (rw [restL_app]; assumption)
 clear hH
 intro n16 vs17 w18 hR19 d0
 obtain ⟨k, f, m, c, rfl, hH, hn20, hf21, hD⟩ := hR19
 simp only [putAll, putD, List.set_cons_zero, List.set_cons_succ, Nat.zero_add, Nat.reduceAdd]
 have hml := hD.len
 rw [List.length_drop, List.length_append] at hml
 refine wp_seq_k ?_
 intro K22 hK22
 refine wp_seq_k ?_
 intro K23 hK23
 refine wrt [.p 0, .p 1, .p 2, .q 3, .p 4, .p 5] ?_
 refine pm ?_;simp only [nf]
 refine pp rfl rfl (pr_nilCheck rfl) ?_;simp only [nf]
 refine pp rfl rfl (pr_fieldAddr 8 rfl Tryd.underlying127 rfl rfl sz22) ?_;simp only [nf]
 refine pq rfl rfl (qr_load1 rfl Tryd.underlying22 rfl ((hH.blk 0 rfl).cell hashC_rest)) ?_;simp only [nf]
 refine pp rfl rfl (pr_len_sl rfl Tryd.underlying22) ?_;simp only [nf]
 refine pp rfl rfl (pr_bin rfl rfl (by first | exact bin_geq_n (n := 64)  | exact bin_geq_i)) ?_;simp only [nf]
 refine plan_nil hH ?_
 clear hH
 intro w24 hH
 refine hK23 _ _ ?_
 (try clear hK23 K23)
 refine wp_cond_split rfl (fun hc25 => ?_) (fun hc25 => ?_)
 ·
  (try simp only [cnd] at hc25)
  refine wp_skip ?_
  refine hK22 _ _ ?_
  (try clear hK22 K22)
  refine wp_block ?_
  refine wp_seq_k ?_
  intro K26 hK26
  refine wrp [.p 0, .p 1, .p 2, .p 3, .p 5, .p 6, .p 7, .q 4, .q 8, .q 9, .p 10, .p 11, .e 12] ?_
  refine pm (pm ?_);simp only [nf]
  refine pp rfl rfl (pr_nilCheck rfl) ?_;simp only [nf]
  refine pp rfl rfl (pr_fieldAddr 0 rfl Tryd.underlying127 rfl rfl sz125) ?_;simp only [nf]
  refine pm ?_;simp only [nf]
  refine pp rfl rfl (pr_nilCheck rfl) ?_;simp only [nf]
  refine pp rfl rfl (pr_fieldAddr 8 rfl Tryd.underlying127 rfl rfl sz22) ?_;simp only [nf]
  refine pq rfl rfl (qr_loadE _ rfl (hH.blk 0 rfl) Tryd.underlying125 rfl sz125 (by rw [hashC_size]; omega) hashC_ext) ?_;simp only [nf]
  refine pq rfl rfl (qr_load1 rfl Tryd.underlying22 rfl ((hH.blk 0 rfl).cell hashC_rest)) ?_;simp only [nf]
  refine pq rfl rfl (qr_call cf76 (fun w' hw => shamix_calls _ _ _ w' ((hT.chg hH.chg h0 h1).grow hw) ((OwnD.sl hH 1 rfl hD).chg hw) (by first | omega | (simp <;> omega))) rfl) ?_;simp only [nf]
  refine pp rfl rfl (pr_nilCheck rfl) ?_;simp only [nf]
  refine pp rfl rfl (pr_fieldAddr 0 rfl Tryd.underlying127 rfl rfl sz125) ?_;simp only [nf]
  refine plan_storeN 0 rfl rfl hH rfl rfl rfl one_arr32 sz125 (by simp) (by simp <;> omega) ?_
  clear hH
  intro w27 hH
  (try simp only [nf, nh, Value.cells, arrB_set, hashC_set8, hashC_set9, hashC_spl] at hH ⊢)
  refine plan_nil hH ?_
  clear hH
  intro w28 hH
  refine hK26 _ _ ?_
  (try clear hK26 K26)
  refine wrt [.p 0, .p 1, .p 2, .p 3, .q 4, .p 5, .p 6, .p 7, .e 8] ?_
  refine pm (pm ?_);simp only [nf]
  refine pp rfl rfl (pr_nilCheck rfl) ?_;simp only [nf]
  refine pp rfl rfl (pr_fieldAddr 8 rfl Tryd.underlying127 rfl rfl sz22) ?_;simp only [nf]
  refine pq rfl rfl (qr_load1 rfl Tryd.underlying22 rfl ((hH.blk 0 rfl).cell hashC_rest)) ?_;simp only [nf]
  refine pp rfl rfl (pr_slice_D (lo := 64) rfl rfl Tryd.underlying22 sz5 (by omega)) ?_;simp only [nf]
  refine pp rfl rfl (pr_nilCheck rfl) ?_;simp only [nf]
  refine pp rfl rfl (pr_fieldAddr 8 rfl Tryd.underlying127 rfl rfl sz22) ?_;simp only [nf]
  refine plan_store1 0 rfl rfl hH rfl rfl rfl rfl sz22 (by simp <;> omega) ?_
  clear hH
  intro w29 hH
  (try simp only [nf, nh, Value.cells, arrB_set, hashC_set8, hashC_set9, hashC_spl] at hH ⊢)
  refine plan_nil hH ?_
  clear hH
  intro w30 hH
  (try simp only [Exit.then, Exit.inBlock, ↓reduceIte, Nat.reduceEqDiff])
  refine ⟨m - 64, ?_, _, rfl, by kernel_rfl, ?_⟩
  · first | omega | (omega)
  simp only [ga]
  refine ⟨k + 1, cutO f 64 c, m - 64, c - 64, trivial, ?_, rfl, ?_, ?_⟩
  ·
   rw [shaReg_succ] at hH
   exact hH
  · first | omega | (omega)
  · first | omega | (exact OwnD.next hD (by omega))
 ·
  (try simp only [cnd] at hc25)
  refine wp_exit ?_
  (try simp only [Exit.then, Exit.inBlock, ↓reduceIte, Nat.reduceEqDiff])
  refine BP.normal ?_
  refine BP.ret0 rfl rfl ?_
  obtain rfl : k = (l ++ bl).length / 64 := by rw [List.length_append]; omega
  refine ⟨rfl, _, f, m, c, _, hH.chg, ?_, hD, fun x hx => ?_⟩
  · unfold hashL
    simpa only [List.length_append] using hH.blk 0 rfl
  · subst hx
    have hne := hH.other (i := 0) rfl (j := 1) rfl (by decide) rfl
    refine ⟨hH.blk 1 rfl, hne, ?_⟩
    rcases hH.mine 1 rfl with h | h
    · exact .inl h
    · exact .inr ((List.mem_cons.1 h).resolve_left hne)

end Go.Proofs.YtmoaddicejohgaaDoor
