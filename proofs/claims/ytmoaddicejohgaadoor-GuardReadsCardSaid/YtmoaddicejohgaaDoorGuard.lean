/- Operations under a guard whose truth is not known: what they yield, as a choice. -/
import Derived.Test.YtmoaddicejohgaaDoorStep
import Derived.Test.YtmoaddicejohgaaDoorSl
set_option linter.unusedSimpArgs false
set_option linter.unusedVariables false
namespace Go.Proofs.YtmoaddicejohgaaDoor
open Go

/-- What a call made is joined to what is owned. -/
theorem Hp.join {S : List Nat} {w0 w w' : World} {L es : List Own} (h : Hp S w0 w L) (k : Hp [] w w' es) : Hp S w0 w' (L ++ es) where
  chg := h.chg.trans' k.chg (by simp)
  own x hx b hb := by
    rcases List.mem_append.1 hx with hx | hx
    · exact (h.call k.chg).own x hx b hb
    · obtain ⟨h1, h2⟩ := k.own x hx b hb
      refine ⟨.inl (Nat.le_trans h.chg.size (h1.resolve_right (by simp))), h2⟩
  apart i j b hi hj := by
    have key : ∀ m : Nat, ((L ++ es)[m]?).bind Own.at = some b → (m < L.length ∧ (L[m]?).bind Own.at = some b) ∨ (L.length ≤ m ∧ (es[m - L.length]?).bind Own.at = some b) := by
      intro m hm
      rw [List.getElem?_append] at hm
      split at hm
      · rename_i h1; exact .inl ⟨h1, hm⟩
      · rename_i h1; exact .inr ⟨by omega, hm⟩
    have cross : ∀ m m' : Nat, (L[m]?).bind Own.at = some b → (es[m']?).bind Own.at = some b → False := by
      intro m m' h1 h2
      obtain ⟨x, hx, hxb⟩ := Option.bind_eq_some_iff.1 h1
      obtain ⟨y, hy, hyb⟩ := Option.bind_eq_some_iff.1 h2
      have a1 := h.lt (List.mem_of_getElem? hx) hxb
      have a2 := (k.own y (List.mem_of_getElem? hy) b hyb).1.resolve_right (by simp)
      omega
    rcases key i hi with ⟨a1, a2⟩ | ⟨a1, a2⟩ <;> rcases key j hj with ⟨c1, c2⟩ | ⟨c1, c2⟩
    · exact h.apart i j b a2 c2
    · exact (cross _ _ a2 c2).elim
    · exact (cross _ _ c2 a2).elim
    · have := k.apart _ _ b a2 c2; omega
theorem Hp.pick1 {S : List Nat} {w0 w : World} {L : List Own} (h : Hp S w0 w L) (i : Nat) {e : Own} (hi : L[i]? = some e) : Hp S w0 w [e] :=
  (h.take 0).add e (fun b hb => h.own e (List.mem_of_getElem? hi) b hb) (fun x hx => by simp at hx)
theorem Hp.pick2 {S : List Nat} {w0 w : World} {L : List Own} (h : Hp S w0 w L) (i j : Nat) {e e' : Own} (hi : L[i]? = some e) (hj : L[j]? = some e') (hij : i ≠ j) : Hp S w0 w [e, e'] := by
  refine (h.pick1 i hi).add e' (fun b hb => h.own e' (List.mem_of_getElem? hj) b hb) (fun x hx b hb hxb => ?_)
  simp only [List.mem_singleton] at hx
  subst hx
  exact hij (h.apart i j b (by rw [hi]; exact hxb) (by rw [hj]; exact hb))
theorem BP.ret4 {P : Program} {fn : Func} {Post : Value → World → Prop} {tm : List Value} {w : World} {t1 t2 t3 t4 : Tmp} {v1 v2 v3 v4 : Value} (hr : fn.results = #[.tmp t1, .tmp t2, .tmp t3, .tmp t4]) (h1 : tm.getD t1 undef = v1) (h2 : tm.getD t2 undef = v2) (h3 : tm.getD t3 undef = v3) (h4 : tm.getD t4 undef = v4) (h : Post (.tuple #[v1, v2, v3, v4]) w) : BP P fn Post .ret ⟨tm.toArray, []⟩ w :=
  .of (v := .tuple #[v1, v2, v3, v4]) (by subst h1; subst h2; subst h3; subst h4; simp [results, hr]) rfl h
theorem BP.ret5 {P : Program} {fn : Func} {Post : Value → World → Prop} {tm : List Value} {w : World} {t1 t2 t3 t4 t5 : Tmp} {v1 v2 v3 v4 v5 : Value} (hr : fn.results = #[.tmp t1, .tmp t2, .tmp t3, .tmp t4, .tmp t5]) (h1 : tm.getD t1 undef = v1) (h2 : tm.getD t2 undef = v2) (h3 : tm.getD t3 undef = v3) (h4 : tm.getD t4 undef = v4) (h5 : tm.getD t5 undef = v5) (h : Post (.tuple #[v1, v2, v3, v4, v5]) w) : BP P fn Post .ret ⟨tm.toArray, []⟩ w :=
  .of (v := .tuple #[v1, v2, v3, v4, v5]) (by subst h1; subst h2; subst h3; subst h4; subst h5; simp [results, hr]) rfl h
section
variable {P : Program} {ops : List Oper} {Q : Exit → Act → World → Prop} {r : List PStep} {a : Act} {w : World} {i j : Nat} {d : Option Tmp} {ty : TypeId} {pos : String} {af : Array Edge} {g : Option (Nat × Bool)} {x y c : Operand} {t t' T : TypeId} {o : Oper} {v : Value} {b : Bool}

theorem wanted_of {pol : Bool} (hg : o.guard = some (j, pol)) (hy : yielded ops.toArray a.tmps j = some b) : Region.wanted o (yielded ops.toArray a.tmps) = (b == pol) := by
  unfold Region.wanted; rw [hg]; simp only [hy]; cases b <;> cases pol <;> rfl
theorem plan_pc_t (ho : ops[i]? = some o) (hg : o.guard = some (j, true)) (hy : yielded ops.toArray a.tmps j = some b) (hrun : b = true → PRun P o a v) (h : wpPlan P ops.toArray Q r (a.put o.dst (cond b v undef)) w) : wpPlan P ops.toArray Q (.p i :: r) a w := by
  cases b with
  | true => exact plan_p ho (by rw [wanted_of hg hy]; rfl) (hrun rfl) h
  | false => exact plan_ps ho (by rw [wanted_of hg hy]; rfl) h
theorem plan_pc_f (ho : ops[i]? = some o) (hg : o.guard = some (j, false)) (hy : yielded ops.toArray a.tmps j = some b) (hrun : b = false → PRun P o a v) (h : wpPlan P ops.toArray Q r (a.put o.dst (cond b undef v)) w) : wpPlan P ops.toArray Q (.p i :: r) a w := by
  cases b with
  | false => exact plan_p ho (by rw [wanted_of hg hy]; rfl) (hrun rfl) h
  | true => exact plan_ps ho (by rw [wanted_of hg hy]; rfl) h
theorem plan_qc_t (ho : ops[i]? = some o) (hg : o.guard = some (j, true)) (hy : yielded ops.toArray a.tmps j = some b) (hrun : b = true → QRun P o a w v) (h : wpPlan P ops.toArray Q r (a.put o.dst (cond b v undef)) w) : wpPlan P ops.toArray Q (.q i :: r) a w := by
  cases b with
  | true => exact plan_q ho (by rw [wanted_of hg hy]; rfl) (hrun rfl) h
  | false => exact plan_qs ho (by rw [wanted_of hg hy]; rfl) h
theorem plan_qc_f (ho : ops[i]? = some o) (hg : o.guard = some (j, false)) (hy : yielded ops.toArray a.tmps j = some b) (hrun : b = false → QRun P o a w v) (h : wpPlan P ops.toArray Q r (a.put o.dst (cond b undef v)) w) : wpPlan P ops.toArray Q (.q i :: r) a w := by
  cases b with
  | false => exact plan_q ho (by rw [wanted_of hg hy]; rfl) (hrun rfl) h
  | true => exact plan_qs ho (by rw [wanted_of hg hy]; rfl) h
theorem pr_pick_or {b' : Bool} (hc : a.eval c = .bool b) (hx : a.eval x = .bool true) (hy : a.eval y = cond b undef (.bool b')) : PRun P ⟨d, .pick c x y, ty, pos, af, g⟩ a (BV (b || b')) := by
  have h := pr_pick (P := P) (d := d) (ty := ty) (pos := pos) (af := af) (g := g) (x := x) (y := y) hc
  cases b with
  | true => rw [if_pos rfl, hx] at h; exact h
  | false => rw [if_neg (by decide), hy] at h; exact h
theorem pr_pick_and {b' : Bool} (hc : a.eval c = .bool b) (hx : a.eval x = cond b (.bool b') undef) (hy : a.eval y = .bool false) : PRun P ⟨d, .pick c x y, ty, pos, af, g⟩ a (BV (b && b')) := by
  have h := pr_pick (P := P) (d := d) (ty := ty) (pos := pos) (af := af) (g := g) (x := x) (y := y) hc
  cases b with
  | true => rw [if_pos rfl, hx] at h; exact h
  | false => rw [if_neg (by decide), hy] at h; exact h
theorem pr_pick_c {vx vy : Value} (hc : a.eval c = .bool b) (hx : a.eval x = cond b vx undef) (hy : a.eval y = cond b undef vy) : PRun P ⟨d, .pick c x y, ty, pos, af, g⟩ a (cond b vx vy) := by
  have h := pr_pick (P := P) (d := d) (ty := ty) (pos := pos) (af := af) (g := g) (x := x) (y := y) hc
  cases b with
  | true => rw [if_pos rfl, hx] at h; exact h
  | false => rw [if_neg (by decide), hy] at h; exact h
theorem pr_index_strD {k : IntKind} {i : Nat} {s : ByteArray} (hx : a.eval x = .string s) (hy : a.eval y = .int k (i : Int)) (hu : P.underlying t = some .string) (hi : i < s.size) :
    PRun P ⟨d, .index t x y, ty, pos, af, g⟩ a (V8 (s.data.toList.getD i 0)) := by
  have h := pr_index_str (P := P) (d := d) (ty := ty) (pos := pos) (af := af) (g := g) hx hy hu hi
  have e : s[i]'hi = s.data.toList.getD i 0 := by
    have hi2 : i < s.data.toList.length := by simpa using hi
    simp only [List.getD, List.getElem?_eq_getElem hi2, Option.getD_some, Array.getElem_toList]; rfl
  rw [e] at h; exact h
theorem qr_loadL {D : TypeDesc} {b o n : Nat} {l : List Value} (hx : a.eval x = PT b o) (hb : Blk w b T l.toArray) (hu : P.underlying t = some D) (hD : isAggD D = true) (hs : szc P t = some n) (hn : o + n ≤ l.length) :
    QRun P ⟨d, .load t x, ty, pos, af, g⟩ a w (.agg ((l.drop o).take n).toArray) := by
  have h := qr_loadN (d := d) (ty := ty) (pos := pos) (af := af) (g := g) hx hb hu hD hs (by simpa using hn)
  have e : l.toArray.extract o (o + n) = ((l.drop o).take n).toArray := by
    apply Array.ext'
    rw [Array.toList_extract, List.extract_eq_take_drop, Nat.add_sub_cancel_left]
  rw [e] at h; exact h
theorem bin_shr_i {m : Int} {cc : Nat} {k : IntKind} (hc : cc < 64) : Bin P .shr t x y (I64 m) (.int k (cc : Int)) (I64 (m / 2 ^ cc)) := bin_of_int fun w => by
  have h0 : ¬ ((cc : Int) < 0) := by omega
  show (Op.shift .shr .i64 m k (cc : Int)).run P w = _
  have e : Int.fdiv m (2 ^ (min cc 64)) = m / 2 ^ cc := by
    rw [Nat.min_eq_left (by omega), Int.fdiv_eq_ediv_of_nonneg _ (Int.le_of_lt (Int.pow_pos (by decide)))]
  simp only [Op.shift, h0, if_false, Int.toNat_natCast, IntKind.bits, e]
  rfl
theorem OwnC.some {o : Option Nat} {n cap s : Nat} {cs : Array Value} {xs : List Value} (h : OwnC o n cap s cs xs) (hn : 0 < n) : ∃ b, o = some b := by
  cases o with
  | none => have := h.nil rfl; have := h.le; omega
  | some b => exact ⟨b, rfl⟩
/-! Slices held against nil. -/
theorem run_eqGuard_slice (P : Program) (op : BinOp) (t : TypeId) (x y : Operand) (ad : Option Addr) (n k : Nat) (v : Value) (w : World) : (eqGuard op t x y (.slice ad n k) v).run P w = .ok () w := by
  unfold eqGuard; cases op <;> rfl
theorem bin_eql_slnil {e : TypeId} {ad : Option Addr} {n k : Nat} (hu : P.underlying t = some (.slice e)) : Bin P .eql t x y (.slice ad n k) (.slice none 0 0) (BV ad.isNone) := fun w => by
  rw [Sem.run_bind, run_eqGuard_slice]
  exact run_binOp_eql rfl (fun d w => by cases ad <;> simp [Op.equalIn, run_underlying hu]) w
theorem bin_neq_slnil {e : TypeId} {ad : Option Addr} {n k : Nat} (hu : P.underlying t = some (.slice e)) : Bin P .neq t x y (.slice ad n k) (.slice none 0 0) (BV !ad.isNone) := fun w => by
  rw [Sem.run_bind, run_eqGuard_slice]
  exact run_binOp_neq rfl (fun d w => by cases ad <;> simp [Op.equalIn, run_underlying hu]) w
theorem bin_eql_Sl {e : TypeId} {v : Value} {l : List UInt8} (h : Sl w v l) (hne : l ≠ []) (hu : P.underlying t = some (.slice e)) : Bin P .eql t x y v (.slice none 0 0) (BV false) := by
  obtain ⟨ad, c, rfl, _, hr⟩ := h
  obtain ⟨b, o, rfl, _⟩ := hr hne
  exact bin_eql_slnil hu
end
/-! What is known of a guard, in one word. -/
theorem gsl : (∀ a b : Bool, ((a || b) = false) = (a = false ∧ b = false)) ∧ (∀ a b : Bool, ((a || b) = true) = (a = true ∨ b = true)) ∧ (∀ a b : Bool, ((a && b) = true) = (a = true ∧ b = true)) ∧ (∀ a b : Bool, ((a && b) = false) = (a = false ∨ b = false)) ∧
  (∀ a : Bool, ((!a) = true) = (a = false)) ∧ (∀ a : Bool, ((!a) = false) = (a = true)) ∧ (∀ (p : Prop) [Decidable p], (decide p = true) = p) ∧ (∀ (p : Prop) [Decidable p], (decide p = false) = ¬ p) ∧
  (∀ a b : Nat, ((a == b) = true) = (a = b)) ∧ (∀ a b : Nat, ((a == b) = false) = ¬ (a = b)) ∧ (∀ a b : Nat, ((a != b) = true) = ¬ (a = b)) ∧ (∀ a b : Nat, ((a != b) = false) = (a = b)) ∧
  (∀ a b : Int, ((a == b) = true) = (a = b)) ∧ (∀ a b : Int, ((a == b) = false) = ¬ (a = b)) ∧ (∀ a b : Int, ((a != b) = true) = ¬ (a = b)) ∧ (∀ a b : Int, ((a != b) = false) = (a = b)) ∧
  (∀ a b : UInt8, ((a == b) = true) = (a = b)) ∧ (∀ a b : UInt8, ((a == b) = false) = ¬ (a = b)) ∧ (∀ a b : UInt8, ((a != b) = true) = ¬ (a = b)) ∧ (∀ a b : UInt8, ((a != b) = false) = (a = b)) ∧
  (∀ a b : List UInt8, ((a == b) = true) = (a = b)) ∧ (∀ a b : List UInt8, ((a == b) = false) = ¬ (a = b)) ∧
  (∀ a b : Nat, (¬ a < b) = (b ≤ a)) ∧ (∀ a b : Nat, (¬ a ≤ b) = (b < a)) ∧ (∀ a b : Int, (¬ a < b) = (b ≤ a)) ∧ (∀ a b : Int, (¬ a ≤ b) = (b < a)) ∧
  (∀ a b : Nat, (a > b) = (b < a)) ∧ (∀ a b : Nat, (a ≥ b) = (b ≤ a)) ∧ (∀ a b : Int, (a > b) = (b < a)) ∧ (∀ a b : Int, (a ≥ b) = (b ≤ a)) := by
  refine ⟨by simp, by simp, by simp, by simp, by simp, by simp, fun p _ => by simp, fun p _ => by simp, ?_, ?_, ?_, ?_, ?_, ?_, ?_, ?_, ?_, ?_, ?_, ?_, ?_, ?_, ?_, ?_, ?_, ?_, fun _ _ => rfl, fun _ _ => rfl, fun _ _ => rfl, fun _ _ => rfl⟩
  all_goals intro a b
  all_goals simp
end Go.Proofs.YtmoaddicejohgaaDoor
