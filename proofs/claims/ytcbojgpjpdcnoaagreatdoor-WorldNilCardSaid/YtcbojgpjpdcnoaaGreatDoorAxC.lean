/-
The abstract run: a deterministic run of a program's code over an abstract heap, evaluated by the kernel, and the law that the model's machine does what it computes. Of no program; no condition. (Part C)
-/
import Derived.Test.YtcbojgpjpdcnoaaGreatDoorAxB
import Derived.RangeFuncRecord

/-
The abstract run, part 21: a region whose order is drawn: what is seen of it beforehand.
-/
namespace Ax
open Go

/-! ### Bits -/
theorem tb_eq (m i : Nat) : tb m i = m.testBit i := by
  show Nat.beq (Nat.land (Nat.shiftRight m i) 1) 1 = _
  rw [beq_eq]
  have h1 : Nat.land (Nat.shiftRight m i) 1 = (m >>> i) &&& 1 := rfl
  rw [h1, Nat.and_one_is_mod, Nat.testBit_eq_decide_div_mod_eq, Nat.shiftRight_eq_div_pow]
theorem tb_lor (a b i : Nat) : tb (Nat.lor a b) i = (tb a i || tb b i) := by
  rw [tb_eq, tb_eq, tb_eq]
  exact Nat.testBit_or a b i
theorem tb_pow (k i : Nat) : tb (Nat.pow 2 k) i = decide (k = i) := by
  rw [tb_eq]
  exact Nat.testBit_two_pow
theorem tb_zero (i : Nat) : tb 0 i = false := by rw [tb_eq]; simp
theorem tb_add (d k i : Nat) : tb (Nat.lor d (Nat.pow 2 k)) i = true ↔ tb d i = true ∨ k = i := by
  rw [tb_lor, tb_pow]; simp
theorem sub_iff (m d : Nat) : sub m d = true ↔ ∀ j, tb m j = true → tb d j = true := by
  unfold sub
  rw [beq_eq, decide_eq_true_eq]
  have e : Nat.land m d = m &&& d := rfl
  rw [e]
  constructor
  · intro h j hj
    rw [tb_eq] at hj ⊢
    rw [← h, Nat.testBit_and] at hj
    simp at hj
    exact hj.2
  · intro h
    refine Nat.eq_of_testBit_eq fun j => ?_
    rw [Nat.testBit_and]
    have := h j
    rw [tb_eq, tb_eq] at this
    cases hm : m.testBit j
    · rfl
    · rw [this hm]; rfl

theorem memN_iff (t : Nat) (l : List Nat) : memN t l = true ↔ t ∈ l := by
  induction l with
  | nil => simp [memN]
  | cons a l ih =>
    unfold memN
    by_cases h : t = a
    · subst h; rw [Nat.beq_refl]; simp
    · rw [beq_eq, decide_eq_false h]; simp [ih, h]

/-! ### What is before what -/
structure RegFacts (ops : Array Oper) (rows : List Row) : Prop where
  get : ∀ i o m, (i, o, m) ∈ rows → ops[i]? = some o
  ex : ∀ i o, ops[i]? = some o → ∃ m, (i, o, m) ∈ rows
  uniq : ∀ i o m o' m', (i, o, m) ∈ rows → (i, o', m') ∈ rows → m = m'
  low : ∀ i o m j, (i, o, m) ∈ rows → tb m j = true → j < i
  edge : ∀ i o m e, (i, o, m) ∈ rows → e ∈ o.after → Region.binds .any e = true → e.on < i
  back : ∀ i o m j, (i, o, m) ∈ rows → tb m j = true → ∃ e ∈ o.after, Region.binds .any e = true ∧ (e.on = j ∨ ∃ o' m', (e.on, o', m') ∈ rows ∧ tb m' j = true)
  forth : ∀ i o m e, (i, o, m) ∈ rows → e ∈ o.after → Region.binds .any e = true → tb m e.on = true
  trans : ∀ i o m j o' m' k, (i, o, m) ∈ rows → (j, o', m') ∈ rows → tb m j = true → tb m' k = true → tb m k = true
  pair : ∀ i o m k o' m', (i, o, m) ∈ rows → (k, o', m') ∈ rows → pairOk ops.toList i o m k o' m' = true
  sorted : rows.Pairwise (fun x y => x.1 < y.1)

theorem edgeMask_some {acc : List Nat} {i : Nat} : ∀ {es : List Edge} {m : Nat}, edgeMask acc i es = some m →
    (∀ e ∈ es, Region.binds .any e = true → e.on < i ∧ ∃ m', acc[e.on]? = some m' ∧ tb m e.on = true ∧ ∀ j, tb m' j = true → tb m j = true) ∧
    ∀ j, tb m j = true → ∃ e ∈ es, Region.binds .any e = true ∧ (e.on = j ∨ ∃ m', acc[e.on]? = some m' ∧ tb m' j = true) := by
  intro es
  induction es with
  | nil =>
    intro m h
    simp only [edgeMask, Option.some.injEq] at h
    subst h
    exact ⟨fun e he => by simp at he, fun j hj => by rw [tb_zero] at hj; cases hj⟩
  | cons e es ih =>
    intro m h
    unfold edgeMask at h
    split at h
    · rename_i hb
      obtain ⟨h1, h2⟩ := ih h
      refine ⟨fun e' he' hb' => ?_, fun j hj => ?_⟩
      · rcases List.mem_cons.1 he' with rfl | he'
        · rw [hb] at hb'; cases hb'
        · exact h1 e' he' hb'
      · obtain ⟨e', he', k⟩ := h2 j hj
        exact ⟨e', List.mem_cons_of_mem _ he', k⟩
    · rename_i hb
      split at h
      · rename_i m1 m2 hlt hg hr
        simp only [Option.some.injEq] at h
        subst h
        obtain ⟨h1, h2⟩ := ih hr
        rw [lget_eq] at hg
        refine ⟨fun e' he' hb' => ?_, fun j hj => ?_⟩
        · rcases List.mem_cons.1 he' with rfl | he'
          · exact ⟨by simpa using hlt, m1, hg, by rw [tb_lor, tb_lor, tb_pow]; simp, fun j hj => by rw [tb_lor, tb_lor, hj]; simp⟩
          · obtain ⟨k1, m', k2, k3, k4⟩ := h1 e' he' hb'
            exact ⟨k1, m', k2, by rw [tb_lor, k3]; simp, fun j hj => by rw [tb_lor, k4 j hj]; simp⟩
        · rw [tb_lor, tb_lor, tb_pow] at hj
          simp only [Bool.or_eq_true, decide_eq_true_eq] at hj
          rcases hj with (hj | hj) | hj
          · exact ⟨e, List.mem_cons_self, hb, .inl hj⟩
          · exact ⟨e, List.mem_cons_self, hb, .inr ⟨m1, hg, hj⟩⟩
          · obtain ⟨e', he', k⟩ := h2 j hj
            exact ⟨e', List.mem_cons_of_mem _ he', k⟩
      · cases h

/-- the masks of the first operations -/
def AncsOk (ops : List Oper) (ms : List Nat) : Prop := ∀ (i : Nat) o m, ops[i]? = some o → ms[i]? = some m → edgeMask (ms.take i) i o.after.toList = some m
theorem ancs_some : ∀ (l pre : List Oper) (acc ms : List Nat), acc.length = pre.length → AncsOk pre acc → ancs l pre.length acc = some ms → ms.length = (pre ++ l).length ∧ AncsOk (pre ++ l) ms := by
  intro l
  induction l with
  | nil =>
    intro pre acc ms hl ha h
    simp only [ancs, Option.some.injEq] at h
    subst h
    simpa using ⟨hl, ha⟩
  | cons o l ih =>
    intro pre acc ms hl ha h
    unfold ancs at h
    split at h
    · rename_i m hm
      have := ih (pre ++ [o]) (acc ++ [m]) ms (by simp [hl]) ?_ (by simpa using h)
      · simpa using this
      · intro i o' m' ho hm'
        by_cases hi : i < pre.length
        · rw [List.getElem?_append_left hi] at ho
          rw [List.getElem?_append_left (by omega)] at hm'
          rw [List.take_append_of_le_length (by omega)]
          exact ha i o' m' ho hm'
        · rw [List.getElem?_append_right (by omega)] at ho
          rw [List.getElem?_append_right (by omega)] at hm'
          have hi0 : i - pre.length = 0 := by
            cases hq : i - pre.length with
            | zero => rfl
            | succ n => rw [hq] at ho; simp at ho
          have hii : i = pre.length := by omega
          rw [hi0] at ho
          rw [show i - acc.length = 0 from by omega] at hm'
          simp at ho hm'
          subst ho; subst hm'; subst hii
          rw [List.take_append_of_le_length (by omega), List.take_of_length_le (by omega)]
          exact hm
    · cases h

theorem rowsOf_mem : ∀ (l : List Oper) (ms : List Nat) (n : Nat), l.length = ms.length → ∀ i o m, (i, o, m) ∈ rowsOf n l ms ↔ ∃ k, i = n + k ∧ l[k]? = some o ∧ ms[k]? = some m := by
  intro l
  induction l with
  | nil => intro ms n hl i o m; simp [rowsOf]
  | cons a l ih =>
    intro ms n hl i o m
    cases ms with
    | nil => simp at hl
    | cons b ms =>
      unfold rowsOf
      rw [List.mem_cons, ih ms (n + 1) (by simpa using hl)]
      constructor
      · rintro (h | ⟨k, h1, h2, h3⟩)
        · cases h; exact ⟨0, rfl, rfl, rfl⟩
        · exact ⟨k + 1, by omega, by simpa using h2, by simpa using h3⟩
      · rintro ⟨k, h1, h2, h3⟩
        cases k with
        | zero => simp at h2 h3; subst h1; subst h2; subst h3; exact .inl rfl
        | succ k => exact .inr ⟨k, by omega, by simpa using h2, by simpa using h3⟩
theorem rowsOf_sorted : ∀ (l : List Oper) (ms : List Nat) (n : Nat), (rowsOf n l ms).Pairwise (fun x y => x.1 < y.1) ∧ ∀ x ∈ rowsOf n l ms, n ≤ x.1 := by
  intro l
  induction l with
  | nil => intro ms n; simp [rowsOf]
  | cons a l ih =>
    intro ms n
    cases ms with
    | nil => simp [rowsOf]
    | cons b ms =>
      obtain ⟨h1, h2⟩ := ih ms (n + 1)
      unfold rowsOf
      refine ⟨List.pairwise_cons.2 ⟨fun y hy => ?_, h1⟩, fun x hx => ?_⟩
      · have := h2 y hy
        show n < y.1
        omega
      · rcases List.mem_cons.1 hx with rfl | hx
        · exact Nat.le_refl _
        · have := h2 x hx; omega

theorem regRows_facts {ops : Array Oper} {rows : List Row} (h : regRows ops.toList = some rows) : RegFacts ops rows := by
  unfold regRows at h
  split at h
  · rename_i ms hms
    split at h
    · rename_i hok
      simp only [Option.some.injEq] at h
      subst h
      obtain ⟨hlen, ha⟩ := ancs_some ops.toList [] [] ms rfl (fun i o m h => by simp at h) hms
      simp only [List.nil_append] at hlen ha
      have hmem := rowsOf_mem ops.toList ms 0 hlen.symm
      have key : ∀ i o m, (i, o, m) ∈ rowsOf 0 ops.toList ms → ops.toList[i]? = some o ∧ ms[i]? = some m := fun i o m hm => by
        obtain ⟨k, h1, h2, h3⟩ := (hmem i o m).1 hm
        rw [Nat.zero_add] at h1
        subst h1
        exact ⟨h2, h3⟩
      have mk : ∀ i o m, ops.toList[i]? = some o → ms[i]? = some m → (i, o, m) ∈ rowsOf 0 ops.toList ms := fun i o m h2 h3 => (hmem i o m).2 ⟨i, by omega, h2, h3⟩
      have msome : ∀ (i : Nat) o, ops.toList[i]? = some o → ∃ m, ms[i]? = some m := fun i o ho => by
        have := (List.getElem?_eq_some_iff.1 ho).1
        exact ⟨ms[i], by simp [show i < ms.length from by omega]⟩
      have em : ∀ i o m, (i, o, m) ∈ rowsOf 0 ops.toList ms → edgeMask (ms.take i) i o.after.toList = some m := fun i o m hm => ha i o m (key i o m hm).1 (key i o m hm).2
      have taken : ∀ (i j : Nat) m', (ms.take i)[j]? = some m' → ms[j]? = some m' ∧ j < i := fun i j m' h => by
        have hj := (List.getElem?_eq_some_iff.1 h).1
        rw [List.length_take] at hj
        rw [List.getElem?_take_of_lt (by omega)] at h
        exact ⟨h, by omega⟩
      have row_at : ∀ (j : Nat) m', ms[j]? = some m' → ∃ o', (j, o', m') ∈ rowsOf 0 ops.toList ms := fun j m' hj => by
        have := (List.getElem?_eq_some_iff.1 hj).1
        exact ⟨ops.toList[j], mk j _ m' (by simp) hj⟩
      have low : ∀ (i : Nat) o m j, (i, o, m) ∈ rowsOf 0 ops.toList ms → tb m j = true → j < i := by
        intro i
        induction i using Nat.strongRecOn with
        | _ i ih =>
          intro o m j hm hj
          obtain ⟨e, he, hb, hk⟩ := (edgeMask_some (em i o m hm)).2 j hj
          have hlt := ((edgeMask_some (em i o m hm)).1 e he hb).1
          rcases hk with rfl | ⟨m', h1, h2⟩
          · exact hlt
          · obtain ⟨h3, -⟩ := taken i e.on m' h1
            obtain ⟨o', ho'⟩ := row_at e.on m' h3
            have := ih e.on hlt o' m' j ho' h2
            omega
      have forth : ∀ i o m e, (i, o, m) ∈ rowsOf 0 ops.toList ms → e ∈ o.after → Region.binds .any e = true → tb m e.on = true ∧ ∀ o' m' k, (e.on, o', m') ∈ rowsOf 0 ops.toList ms → tb m' k = true → tb m k = true := fun i o m e hm he hb => by
        obtain ⟨-, m', h1, h2, h3⟩ := (edgeMask_some (em i o m hm)).1 e (by simpa using he) hb
        refine ⟨h2, fun o' m'' k hr hk => h3 k ?_⟩
        have := (key _ _ _ hr).2
        rw [(taken i e.on m' h1).1] at this
        cases this
        exact hk
      have back : ∀ i o m j, (i, o, m) ∈ rowsOf 0 ops.toList ms → tb m j = true → ∃ e ∈ o.after, Region.binds .any e = true ∧ (e.on = j ∨ ∃ o' m', (e.on, o', m') ∈ rowsOf 0 ops.toList ms ∧ tb m' j = true) := fun i o m j hm hj => by
        obtain ⟨e, he, hb, hk⟩ := (edgeMask_some (em i o m hm)).2 j hj
        refine ⟨e, by simpa using he, hb, ?_⟩
        rcases hk with rfl | ⟨m', h1, h2⟩
        · exact .inl rfl
        · obtain ⟨o', ho'⟩ := row_at e.on m' (taken i e.on m' h1).1
          exact .inr ⟨o', m', ho', h2⟩
      refine ⟨fun i o m hm => by rw [← Array.getElem?_toList]; exact (key i o m hm).1, fun i o ho => ?_, fun i o m o' m' h1 h2 => ?_, low, fun i o m e hm he hb => low i o m e.on hm (forth i o m e hm he hb).1, back, fun i o m e hm he hb => (forth i o m e hm he hb).1, ?_, fun i o m k o' m' h1 h2 => ?_, (rowsOf_sorted _ _ _).1⟩
      · rw [← Array.getElem?_toList] at ho
        obtain ⟨m, hm⟩ := msome i o ho
        exact ⟨m, mk i o m ho hm⟩
      · have e1 := (key i o m h1).2
        have e2 := (key i o' m' h2).2
        rw [e1] at e2; exact Option.some.inj e2
      · intro i
        induction i using Nat.strongRecOn with
        | _ i ih =>
          intro o m j o' m' k hi hj hmj hmk
          obtain ⟨e, he, hb, hk⟩ := back i o m j hi hmj
          obtain ⟨h1, h2⟩ := forth i o m e hi he hb
          rcases hk with rfl | ⟨o2, m2, h3, h4⟩
          · exact h2 o' m' k hj hmk
          · exact h2 o2 m2 k h3 (ih e.on (low i o m e.on hi h1) o2 m2 j o' m' k h3 hj h4 hmk)
      · unfold regOk at hok
        rw [List.all_eq_true] at hok
        have := hok _ h1
        rw [List.all_eq_true] at this
        exact this _ h2
    · cases h
  · cases h

/-- what of two operations is known -/
theorem pair_spec {all : List Oper} {i k : Nat} {oi ok : Oper} {mi mk : Nat} (h : pairOk all i oi mi k ok mk = true) (hne : i ≠ k) :
    (chainOp oi.op = true → chainOp ok.op = true → tb mi k = true ∨ tb mk i = true) ∧
    ∀ t, ok.dst = some t → oi.dst ≠ some t ∧ (t ∈ looksL all oi → tb mi k = true ∨ tb mk i = true) := by
  unfold pairOk at h
  rw [beq_eq, decide_eq_false hne] at h
  simp only [Bool.and_eq_true] at h
  obtain ⟨h1, h2⟩ := h
  refine ⟨fun c1 c2 => ?_, fun t ht => ?_⟩
  · rw [c1, c2] at h1
    simpa using h1
  · rw [ht] at h2
    simp only [Bool.and_eq_true] at h2
    obtain ⟨h3, h4⟩ := h2
    refine ⟨fun hd => ?_, fun hl => ?_⟩
    · rw [hd] at h3
      simp only [Nat.beq_refl] at h3; cases h3
    · rw [(memN_iff t _).2 hl] at h4
      simpa using h4
end Ax

/-
The abstract run, part 22: a region whose order is drawn: what the abstract run has done.
-/
namespace Ax
open Go

/-! ### Equal values -/
theorem leq_eq {f : V → V → Bool} : ∀ {a b : List V}, (∀ x y, x ∈ a → f x y = true → x = y) → veq.leq f a b = true → a = b := by
  intro a
  induction a with
  | nil => intro b _ h; cases b with
    | nil => rfl
    | cons _ _ => simp [veq.leq] at h
  | cons x a ih => intro b hf h; cases b with
    | nil => simp [veq.leq] at h
    | cons y b =>
      simp only [veq.leq, Bool.and_eq_true] at h
      rw [hf x y List.mem_cons_self h.1, ih (fun x y hx => hf x y (List.mem_cons_of_mem _ hx)) h.2]
theorem veq_eq : ∀ (d : Nat) (a b : V), veq d a b = true → a = b := by
  intro d
  induction d with
  | zero => intro a b h; simp [veq] at h
  | succ d ih =>
    intro a b h
    have arr : ∀ (x y : Array V), veq.leq (veq d) x.toList y.toList = true → x = y := fun x y h => Array.ext' (leq_eq (fun u v _ => ih u v) h)
    cases a <;> cases b <;> simp only [veq, Bool.and_eq_true, beq_iff_eq] at h <;> try (cases h)
    all_goals first
      | rfl
      | (obtain ⟨⟨h1, h2⟩, h3⟩ := h; subst h1; subst h2; subst h3; rfl)
      | (rename_i h1 h2; subst h1; subst h2; rfl)
      | (exact congrArg Value.string (ByteArray.ext (Array.ext' h)))
      | (obtain ⟨⟨h1, h2⟩, h3⟩ := h; subst h1; rw [arr _ _ h2, arr _ _ h3])
      | (obtain ⟨h1, h2⟩ := h; subst h1; rw [ih _ _ h2])
      | (rw [arr _ _ h])
      | (rename_i h1 h2; obtain ⟨h1, h3⟩ := h1; subst h1; subst h3; subst h2; rfl)
      | (rename_i h1 h2; obtain ⟨h1, h3⟩ := h1; subst h1; rw [arr _ _ h3, arr _ _ h2])
      | (rename_i h1 h2; subst h1; rw [ih _ _ h2])
theorem blkSame_eq {x y : Blk} (h : blkSame x y = true) : x = y := by
  unfold blkSame at h
  split at h
  · simp only [Bool.and_eq_true, beq_iff_eq] at h
    obtain ⟨h1, h2, h3, h4, h5⟩ := h
    rw [leq_eq (fun u v _ => veq_eq 8 u v) h1, Nat.eq_of_beq_eq_true h2, Nat.eq_of_beq_eq_true h3, h4, h5]
  · rw [Nat.eq_of_beq_eq_true h]
  · cases h

/-! ### What the abstract run has done -/
def Rec.i : Rec → Nat
  | .val i _ _ _ => i
  | .new i _ _ _ _ => i
  | .no i _ _ => i
def Rec.o : Rec → Oper
  | .val _ o _ _ => o
  | .new _ o _ _ _ => o
  | .no _ o _ => o
def Rec.f : Rec → Fr
  | .val _ _ f _ => f
  | .new _ _ f _ _ => f
  | .no _ _ f => f
/-- what is known of a record -/
structure RecOk (E : Env) (ops : Array Oper) (rows : List Row) (f0 : Fr) (d : Nat) (f : Fr) (r : Rec) : Prop where
  row : ∃ m, (r.i, r.o, m) ∈ rows ∧ tb d r.i = true ∧ chainOp r.o.op = false ∧
    ∀ t k ok mk, (k, ok, mk) ∈ rows → ok.dst = some t → t ∈ looksL ops.toList r.o → (tb m k = true → r.f.get t = f.get t) ∧ (tb m k = false → r.f.get t = f0.get t)
  free : ∀ t, (∀ k ok mk, (k, ok, mk) ∈ rows → ok.dst ≠ some t) → r.f.get t = f0.get t
  what : match r with
    | .val _ o fi v => wantedA ops.toList fi o = some true ∧ allocOp o.op = false ∧ (∀ t, o.dst = some t → t < f.n → f.get t = v)
    | .new _ o fi b x => wantedA ops.toList fi o = some true ∧ allocOp o.op = true ∧ ∃ A1 v A2, A1.n = b ∧ aop E A1 (fi.eval E.ng) o = some (.val v A2) ∧ A2.get b = some x ∧ ∀ t, o.dst = some t → t < f.n → f.get t = v
    | .no _ o fi => wantedA ops.toList fi o = some false ∧ ∀ t, o.dst = some t → f.get t = undef

structure CI (E : Env) (ops : Array Oper) (rows : List Row) (f0 : Fr) (d : Nat) (f : Fr) (rs : List Rec) : Prop where
  un : ∀ t, (∀ k o m, (k, o, m) ∈ rows → tb d k = true → o.dst ≠ some t) → f.get t = f0.get t
  recs : ∀ r ∈ rs, RecOk E ops rows f0 d f r
  all : ∀ i o m, (i, o, m) ∈ rows → tb d i = true → chainOp o.op = false → ∃ r ∈ rs, r.i = i
  down : ∀ i o m j, (i, o, m) ∈ rows → tb d i = true → tb m j = true → tb d j = true
  valid : ∀ i, tb d i = true → ∃ o m, (i, o, m) ∈ rows
  n : f.n = f0.n
  d : f.d = f0.d
  defers : f.defers = f0.defers
  ok : f0.n ≤ 16 ^ f0.d

section
variable {E : Env} {ops : Array Oper} {rows : List Row} (hr : RegFacts ops rows) {f0 : Fr}
include hr

/-- each temporary is written by one operation -/
theorem one_writer {i k : Nat} {o o' : Oper} {m m' : Nat} {t : Nat} (h1 : (i, o, m) ∈ rows) (h2 : (k, o', m') ∈ rows) (ho : o.dst = some t) (ho' : o'.dst = some t) : i = k := by
  by_cases e : i = k
  · exact e
  · exact absurd ho ((pair_spec (hr.pair i o m k o' m' h1 h2) e).2 t ho').1

theorem same_row {i : Nat} {o o' : Oper} {m m' : Nat} (h1 : (i, o, m) ∈ rows) (h2 : (i, o', m') ∈ rows) : o = o' ∧ m = m' := by
  refine ⟨?_, hr.uniq _ _ _ _ _ h1 h2⟩
  have e1 := hr.get _ _ _ h1
  rw [hr.get _ _ _ h2] at e1
  exact (Option.some.inj e1).symm

/-- one operation more -/
theorem CI.add {d : Nat} {f : Fr} {rs : List Rec} (h : CI E ops rows f0 d f rs) {i : Nat} {o : Oper} {m : Nat} (hi : (i, o, m) ∈ rows) (hnd : tb d i = false) (hm : ∀ j, tb m j = true → tb d j = true) (v : V) {rs' : List Rec}
    (hrs : ∀ r ∈ rs', r ∈ rs ∨ (r.i = i ∧ r.o = o ∧ r.f = f ∧ chainOp o.op = false ∧
      match r with
      | .val _ _ _ u => wantedA ops.toList f o = some true ∧ allocOp o.op = false ∧ u = v
      | .new _ _ _ b x => wantedA ops.toList f o = some true ∧ allocOp o.op = true ∧ ∃ A1 A2, A1.n = b ∧ aop E A1 (f.eval E.ng) o = some (.val v A2) ∧ A2.get b = some x
      | .no _ _ _ => wantedA ops.toList f o = some false ∧ v = undef))
    (hall : (∀ r ∈ rs, r ∈ rs') ∧ (chainOp o.op = false → ∃ r ∈ rs', r.i = i)) :
    CI E ops rows f0 (Nat.lor d (Nat.pow 2 i)) (f.put o.dst v) rs' := by
  have hfd : f.n ≤ 16 ^ f.d := by rw [h.n, h.d]; exact h.ok
  have hget := fun t => Fr.get_put hfd o.dst v t
  have keep : ∀ t k ok mk, (k, ok, mk) ∈ rows → ok.dst = some t → k ≠ i → (f.put o.dst v).get t = f.get t := fun t k ok mk hk hd hne => by
    rw [hget, if_neg]
    rintro ⟨h1, -⟩
    exact hne (one_writer hr hk hi hd h1)
  refine ⟨fun t ht => ?_, fun r hr' => ?_, fun j o' m' hj htb hc => ?_, fun j o' m' k hj htb hk => ?_, fun j htb => ?_, by rw [Fr.put_n]; exact h.n, by rw [Fr.put_d]; exact h.d, by rw [Fr.put_defers]; exact h.defers, h.ok⟩
  · rw [hget, if_neg (fun h1 => ht i o m hi (by rw [tb_add]; exact .inr rfl) h1.1)]
    exact h.un t fun k o' m' hk htb => ht k o' m' hk (by rw [tb_add]; exact .inl htb)
  · rcases hrs r hr' with hold | ⟨e1, e2, e3, hc, hwhat⟩
    · have hrec := h.recs r hold
      obtain ⟨mr, hrow, hdr, hch, hlook⟩ := hrec.row
      have hne : r.i ≠ i := fun e => by rw [e, hnd] at hdr; cases hdr
      have keepd : ∀ t, r.o.dst = some t → (f.put o.dst v).get t = f.get t := fun t ht => keep t r.i r.o mr hrow ht hne
      refine ⟨⟨mr, hrow, by rw [tb_add]; exact .inl hdr, hch, fun t k ok mk hk hd hl => ?_⟩, hrec.free, ?_⟩
      · obtain ⟨h1, h2⟩ := hlook t k ok mk hk hd hl
        refine ⟨fun hb => ?_, h2⟩
        rw [h1 hb]
        refine (keep t k ok mk hk hd fun e => ?_).symm
        subst e
        rw [h.down _ _ _ _ hrow hdr hb] at hnd
        cases hnd
      · have hw := hrec.what
        cases r with
        | val i' o' fi u =>
          obtain ⟨w1, w2, w3⟩ := hw
          refine ⟨w1, w2, fun t ht hlt => ?_⟩
          rw [keepd t ht]
          exact w3 t ht (by rw [Fr.put_n] at hlt; exact hlt)
        | new i' o' fi b x =>
          obtain ⟨w1, w2, A1, u, A2, w3, w4, w5, w6⟩ := hw
          refine ⟨w1, w2, A1, u, A2, w3, w4, w5, fun t ht hlt => ?_⟩
          rw [keepd t ht]
          exact w6 t ht (by rw [Fr.put_n] at hlt; exact hlt)
        | no i' o' fi =>
          obtain ⟨w1, w2⟩ := hw
          refine ⟨w1, fun t ht => ?_⟩
          rw [keepd t ht]
          exact w2 t ht
    · refine ⟨⟨m, by rw [e1, e2]; exact hi, by rw [e1, tb_add]; exact .inr rfl, by rw [e2]; exact hc, fun t k ok mk hk hd hl => ?_⟩, fun t ht => ?_, ?_⟩
      · rw [e3]
        rw [e2] at hl
        by_cases hki : k = i
        · subst hki
          obtain ⟨rfl, rfl⟩ := same_row hr hi hk
          refine ⟨fun hb => absurd (hr.low _ _ _ _ hi hb) (by omega), fun _ => h.un t fun k' o' m' hk' htb hd' => ?_⟩
          have := one_writer hr hk' hk hd' hd
          subst this
          rw [hnd] at htb; cases htb
        · refine ⟨fun hb => (keep t k ok mk hk hd hki).symm, fun hb => h.un t fun k' o' m' hk' htb hd' => ?_⟩
          have := one_writer hr hk' hk hd' hd
          subst this
          rcases ((pair_spec (hr.pair i o m k' ok mk hi hk) (fun e => hki e.symm)).2 t hd).2 hl with hb' | hb'
          · rw [hb] at hb'; cases hb'
          · rw [h.down _ _ _ _ hk htb hb'] at hnd; cases hnd
      · rw [e3]
        exact h.un t fun k o' m' hk _ => ht k o' m' hk
      · cases r with
        | val i' o' fi u =>
          obtain ⟨w1, w2, rfl⟩ := hwhat
          simp only [Rec.o, Rec.f, Rec.i] at e1 e2 e3
          subst e1; subst e2; subst e3
          exact ⟨w1, w2, fun t ht hlt => by rw [hget, if_pos ⟨ht, by rw [Fr.put_n] at hlt; exact hlt⟩]⟩
        | new i' o' fi b x =>
          obtain ⟨w1, w2, A1, A2, w3, w4, w5⟩ := hwhat
          simp only [Rec.o, Rec.f, Rec.i] at e1 e2 e3
          subst e1; subst e2; subst e3
          exact ⟨w1, w2, A1, v, A2, w3, w4, w5, fun t ht hlt => by rw [hget, if_pos ⟨ht, by rw [Fr.put_n] at hlt; exact hlt⟩]⟩
        | no i' o' fi =>
          obtain ⟨w1, rfl⟩ := hwhat
          simp only [Rec.o, Rec.f, Rec.i] at e1 e2 e3
          subst e1; subst e2; subst e3
          refine ⟨w1, fun t ht => ?_⟩
          rw [hget]
          split
          · rfl
          · rename_i hlt
            exact Fr.get_ge fun hlt' => hlt ⟨ht, hlt'⟩
  · rw [tb_add] at htb
    rcases htb with htb | rfl
    · obtain ⟨r, h1, h2⟩ := h.all j o' m' hj htb hc
      exact ⟨r, hall.1 r h1, h2⟩
    · obtain ⟨rfl, rfl⟩ := same_row hr hi hj
      exact hall.2 hc
  · rw [tb_add] at htb ⊢
    rcases htb with htb | rfl
    · exact .inl (h.down _ _ _ _ hj htb hk)
    · obtain ⟨rfl, rfl⟩ := same_row hr hi hj
      exact .inl (hm k hk)
  · rw [tb_add] at htb
    rcases htb with htb | rfl
    · exact h.valid j htb
    · exact ⟨o, m, hi⟩
end
end Ax

/-
The abstract run, part 23: a region whose order is drawn: a pass of the abstract run.
-/
namespace Ax
open Go

/-- new blocks, and nothing else -/
structure Grow (A A' : AW) : Prop where
  le : A.n ≤ A'.n
  same : ∀ b, b < A.n → A'.get b = A.get b
  top : A.n ≤ 65536 → A'.n ≤ 65536
  has : (∀ b, b < A.n → (A.get b).isSome = true) → ∀ b, b < A'.n → (A'.get b).isSome = true
theorem Grow.refl (A : AW) : Grow A A := ⟨Nat.le_refl _, fun _ _ => rfl, fun h => h, fun h => h⟩
theorem Grow.trans {A B C : AW} (h : Grow A B) (k : Grow B C) : Grow A C :=
  ⟨Nat.le_trans h.le k.le, fun b hb => (k.same b (by have := h.le; omega)).trans (h.same b hb), fun ht => k.top (h.top ht), fun hh => k.has (h.has hh)⟩
theorem Grow.new {A A' : AW} {x : Blk} {b : Nat} (h : A.new x = some (b, A')) : Grow A A' := by
  obtain ⟨rfl, h1, h2, h3, h4⟩ := AW.new_some h
  refine ⟨by omega, fun c hc => h4 c (by omega), fun _ => by omega, fun hh c hc => ?_⟩
  by_cases e : c = A.n
  · subst e; rw [h3]; rfl
  · rw [h4 c e]; exact hh c (by omega)
theorem Rel.grow {cx : Cx} {A A' : AW} {w : World} (h : Rel cx A w) (hg : Grow A A') (ht : Top cx A.n) : Rel cx A' w := by
  have hlt : ∀ b r, cx.m b = some r → b < A.n := fun b r hm => by
    rcases Nat.lt_or_ge b A.n with h | h
    · exact h
    · rw [(ht b h).1] at hm; cases hm
  refine ⟨fun b x r hx hm => ?_, fun b b' r hm hm' => ?_, h.rng, hg.top h.top, hg.has h.has⟩
  · rw [hg.same b (hlt b r hm)] at hx
    exact h.blk b x r hx hm
  · rw [hg.same b (hlt b r hm), hg.same b' (hlt b' r hm')]
    exact h.inj b b' r hm hm'
theorem Step.grow {cx cx' : Cx} {A A1 A2 : AW} {w w' : World} (h : Step cx A w cx' A1 w') (hg : Grow A1 A2) (ht : Top cx' A1.n) : Step cx A w cx' A2 w' where
  ext := h.ext
  out := fun b hb => h.out b fun ⟨h1, h2⟩ => hb ⟨h1, by have := hg.le; omega⟩
  le := Nat.le_trans h.le hg.le
  rel := h.rel.grow hg ht
  size := h.size
  frame := h.frame
  new := fun b r h1 h2 hm => by
    rcases Nat.lt_or_ge b A1.n with h3 | h3
    · exact h.new b r h1 h3 hm
    · rw [(ht b h3).1] at hm; cases hm
  dead := fun b hb hd => by
    rw [hg.same b (by have := h.le; omega)]
    exact h.dead b hb hd
  os := h.os
  tape := h.tape
  output := h.output

theorem alloc_grow {E : Env} {A : AW} {ρ : Operand → V} {o : Oper} {r : ORes} (ha : allocOp o.op = true) (h : aop E A ρ o = some r) : ∃ v x A', r = .val v A' ∧ A.new x = some (A.n, A') := by
  have fin : ∀ {x : Blk} {b : Nat} {A' : AW} (v : V), A.new x = some (b, A') → r = .val v A' → ∃ v x A', r = .val v A' ∧ A.new x = some (A.n, A') := fun v hn hr => by
    obtain ⟨rfl, -⟩ := AW.new_some hn
    exact ⟨v, _, _, hr, hn⟩
  have cells : ∀ e v, newCells E A e v = some r → ∃ v x A', r = .val v A' ∧ A.new x = some (A.n, A') := fun e v h => by
    unfold newCells at h
    split at h
    · split at h
      · rename_i b A' hn
        cases h
        exact fin _ hn rfl
      · cases h
    · cases h
  unfold aop at h
  split at h <;> rename_i ho <;> try (rw [ho] at ha; cases ha)
  case h_5 e =>
    unfold aAlloc at h
    split at h
    · exact cells _ _ h
    · cases h
  case h_6 e x => exact cells _ _ h
  case h_8 t len ps =>
    unfold aBuildSlice at h
    simp only [Option.bind_eq_bind, Option.bind_eq_some_iff] at h
    obtain ⟨d, hu, h⟩ := h
    split at h
    · simp only [Option.bind_eq_some_iff] at h
      obtain ⟨s, hs, z, hz, zc, hzc, cs, hcs, h⟩ := h
      split at h
      · simp only [Option.bind_eq_some_iff, Option.some.injEq] at h
        obtain ⟨⟨b, A'⟩, hn, rfl⟩ := h
        exact fin _ hn rfl
      · cases h
    · cases h
  case h_17 t rv =>
    unfold aMakeMap at h
    split at h
    · rename_i k e b A' hu hn
      cases h
      exact fin _ hn rfl
    · cases h
  case h_18 t l c =>
    unfold aMakeSlice at h
    simp only [Option.bind_eq_bind, Option.bind_eq_some_iff] at h
    obtain ⟨d, hu, h⟩ := h
    split at h
    · simp only [Option.bind_eq_some_iff] at h
      obtain ⟨i, hi, z, hz, zc, hzc, len, hlen, cap, hcap, h⟩ := h
      split at h
      · simp only [Option.bind_eq_some_iff, Option.some.injEq] at h
        obtain ⟨⟨b, A'⟩, hn, rfl⟩ := h
        exact fin _ hn rfl
      · cases h
    · cases h
  case h_30 => cases h

section
variable {E : Env} {ops : Array Oper} {rows : List Row} (hr : RegFacts ops rows) {f0 : Fr}

def NewLt (rs : List Rec) (n : Nat) : Prop := ∀ i o fi b x, Rec.new i o fi b x ∈ rs → b < n
def NewDist (rs : List Rec) : Prop := ∀ i o fi x i' o' fi' x' b, Rec.new i o fi b x ∈ rs → Rec.new i' o' fi' b x' ∈ rs → i = i'
structure PassOk (E : Env) (ops : Array Oper) (rows : List Row) (f0 : Fr) (l : List Row) (d : Nat) (f : Fr) (A : AW) (rs : List Rec) (ds : DS) : Prop where
  ci : CI E ops rows f0 ds.done ds.f ds.recs
  pend : ∀ x ∈ ds.pend, x ∈ l ∧ tb ds.done x.1 = false ∧ (chainOp x.2.1.op = true ∨ ∃ j, tb x.2.2 j = true ∧ tb ds.done j = false)
  sorted : ds.pend.Pairwise (fun x y => x.1 < y.1)
  cover : ∀ x ∈ l, x ∈ ds.pend ∨ tb ds.done x.1 = true
  up : ∀ j, tb d j = true → tb ds.done j = true
  from_ : ∀ j, tb ds.done j = true → tb d j = true ∨ ∃ o m, (j, o, m) ∈ l ∧ chainOp o.op = false
  grow : Grow A ds.A
  recs : ∀ r ∈ ds.recs, r ∈ rs ∨ ∀ i o fi b x, r = .new i o fi b x → A.n ≤ b ∧ b < ds.A.n
  same : ∀ t, (∀ k o m, (k, o, m) ∈ rows → tb ds.done k = true → tb d k = false → o.dst ≠ some t) → ds.f.get t = f.get t
  dist : NewLt rs A.n → NewDist rs → NewLt ds.recs ds.A.n ∧ NewDist ds.recs

include hr in
theorem passD_ok : ∀ (l : List Row) (d : Nat) (f : Fr) (A : AW) (rs : List Rec) (ds : DS), l.Pairwise (fun x y => x.1 < y.1) → (∀ x ∈ l, x ∈ rows ∧ tb d x.1 = false) → CI E ops rows f0 d f rs →
    passD E ops.toList l d f A rs = some ds → PassOk E ops rows f0 l d f A rs ds := by
  intro l
  induction l with
  | nil =>
    intro d f A rs ds hs hl hc h
    simp only [passD, Option.some.injEq] at h
    subst h
    exact ⟨hc, fun x hx => by simp at hx, List.Pairwise.nil, fun x hx => by simp at hx, fun j hj => hj, fun j hj => .inl hj, .refl _, fun r hr => .inl hr, fun t _ => rfl, fun h1 h2 => ⟨h1, h2⟩⟩
  | cons x l ih =>
    intro d f A rs ds hs hl hc h
    obtain ⟨i, o, m⟩ := x
    obtain ⟨hs1, hs2⟩ := List.pairwise_cons.1 hs
    obtain ⟨hrow, hnd⟩ := hl _ List.mem_cons_self
    have hfd : f.n ≤ 16 ^ f.d := by rw [hc.n, hc.d]; exact hc.ok
    have noNew : ∀ {r : Rec} {A : AW}, (∀ i o fi b x, r ≠ .new i o fi b x) → NewLt rs A.n → NewDist rs → NewLt (r :: rs) A.n ∧ NewDist (r :: rs) := fun {r A} hne h1 h2 => by
      refine ⟨fun i o fi b x hm => ?_, fun i o fi x i' o' fi' x' b hm hm' => ?_⟩
      · rcases List.mem_cons.1 hm with e | hm
        · exact absurd e.symm (hne _ _ _ _ _)
        · exact h1 _ _ _ _ _ hm
      · rcases List.mem_cons.1 hm with e | hm
        · exact absurd e.symm (hne _ _ _ _ _)
        · rcases List.mem_cons.1 hm' with e | hm'
          · exact absurd e.symm (hne _ _ _ _ _)
          · exact h2 i o fi x i' o' fi' x' b hm hm'
    -- what is common to the three ways of going on
    have go : ∀ (v : V) (A1 : AW) (rs1 : List Rec), Grow A A1 → (∀ r ∈ rs1, r ∈ rs ∨ ∀ i o fi b x, r = .new i o fi b x → A.n ≤ b ∧ b < A1.n) → CI E ops rows f0 (Nat.lor d (Nat.pow 2 i)) (f.put o.dst v) rs1 → chainOp o.op = false → (NewLt rs A.n → NewDist rs → NewLt rs1 A1.n ∧ NewDist rs1) →
        passD E ops.toList l (Nat.lor d (Nat.pow 2 i)) (f.put o.dst v) A1 rs1 = some ds → PassOk E ops rows f0 ((i, o, m) :: l) d f A rs ds := by
      intro v A1 rs1 hg hrs1 hc1 hch hdist hp
      have k := ih _ _ _ _ _ hs2 (fun y hy => ⟨(hl y (List.mem_cons_of_mem _ hy)).1, by
        have h1 := hs1 y hy
        have h2 := (hl y (List.mem_cons_of_mem _ hy)).2
        cases hb : tb (Nat.lor d (Nat.pow 2 i)) y.1 with
        | false => rfl
        | true =>
          rw [tb_add] at hb
          rcases hb with hb | hb
          · rw [h2] at hb; cases hb
          · have h1 : i < y.1 := h1
            omega⟩) hc1 hp
      have hdone : tb ds.done i = true := k.up i (by rw [tb_add]; exact .inr rfl)
      refine ⟨k.ci, fun y hy => ?_, k.sorted, fun y hy => ?_, fun j hj => k.up j (by rw [tb_add]; exact .inl hj), fun j hj => ?_, hg.trans k.grow, fun r hr' => ?_, fun t ht => ?_, fun h1 h2 => k.dist (hdist h1 h2).1 (hdist h1 h2).2⟩
      · obtain ⟨h1, h2, h3⟩ := k.pend y hy
        exact ⟨List.mem_cons_of_mem _ h1, h2, h3⟩
      · rcases List.mem_cons.1 hy with rfl | hy
        · exact .inr hdone
        · exact k.cover y hy
      · rcases k.from_ j hj with h1 | ⟨o', m', h1, h2⟩
        · rw [tb_add] at h1
          rcases h1 with h1 | rfl
          · exact .inl h1
          · exact .inr ⟨o, m, List.mem_cons_self, hch⟩
        · exact .inr ⟨o', m', List.mem_cons_of_mem _ h1, h2⟩
      · rcases k.recs r hr' with h1 | h1
        · rcases hrs1 r h1 with h2 | h2
          · exact .inl h2
          · refine .inr fun i o fi b x e => ?_
            have := h2 i o fi b x e
            have := k.grow.le
            exact ⟨by omega, by omega⟩
        · refine .inr fun i o fi b x e => ?_
          have := h1 i o fi b x e
          have := hg.le
          exact ⟨by omega, by omega⟩
      · rw [k.same t fun k' o' m' hk h1 h2 => ht k' o' m' hk h1 (by
          cases hb : tb d k' with
          | false => rfl
          | true =>
            have : tb (Nat.lor d (Nat.pow 2 i)) k' = true := by rw [tb_add]; exact .inl hb
            rw [h2] at this; cases this)]
        rw [Fr.get_put hfd, if_neg]
        rintro ⟨h1, -⟩
        exact ht i o m hrow hdone hnd h1
    unfold passD at h
    split at h
    · -- it waits
      rename_i hwait
      split at h
      · rename_i p d' f' A' rs' hp
        simp only [Option.some.injEq] at h
        subst h
        have k := ih _ _ _ _ _ hs2 (fun y hy => hl y (List.mem_cons_of_mem _ hy)) hc hp
        have hnot : tb d' i = false := by
          cases hb : tb d' i with
          | false => rfl
          | true =>
            rcases k.from_ i hb with h1 | ⟨o', m', h1, h2⟩
            · rw [hnd] at h1; cases h1
            · have : i < i := hs1 _ h1
              omega
        refine ⟨k.ci, fun y hy => ?_, ?_, fun y hy => ?_, k.up, fun j hj => ?_, k.grow, k.recs, k.same, k.dist⟩
        · rcases List.mem_cons.1 hy with rfl | hy
          · refine ⟨List.mem_cons_self, hnot, ?_⟩
            cases hch : chainOp o.op with
            | true => exact .inl rfl
            | false =>
              rw [hch] at hwait
              simp only [Bool.not_false, Bool.true_and] at hwait
              have hns : ¬ ∀ j, tb m j = true → tb d j = true := fun hh => by
                rw [(sub_iff m d).2 hh] at hwait; cases hwait
              obtain ⟨j, hj⟩ := Classical.not_forall.1 hns
              obtain ⟨hj1, hj2⟩ := Classical.not_imp.1 hj
              refine .inr ⟨j, hj1, ?_⟩
              cases hb : tb d' j with
              | false => rfl
              | true =>
                rcases k.from_ j hb with h1 | ⟨o', m', h1, h2⟩
                · exact absurd h1 hj2
                · have h3 : i < j := hs1 _ h1
                  have := hr.low _ _ _ _ hrow hj1
                  omega
          · obtain ⟨h1, h2, h3⟩ := k.pend y hy
            exact ⟨List.mem_cons_of_mem _ h1, h2, h3⟩
        · refine List.pairwise_cons.2 ⟨fun y hy => hs1 y (k.pend y hy).1, k.sorted⟩
        · rcases List.mem_cons.1 hy with rfl | hy
          · exact .inl List.mem_cons_self
          · rcases k.cover y hy with h1 | h1
            · exact .inl (List.mem_cons_of_mem _ h1)
            · exact .inr h1
        · rcases k.from_ j hj with h1 | ⟨o', m', h1, h2⟩
          · exact .inl h1
          · exact .inr ⟨o', m', List.mem_cons_of_mem _ h1, h2⟩
      · cases h
    · rename_i hgo
      simp only [Bool.and_eq_true, Bool.not_eq_true'] at hgo
      obtain ⟨hch, hsub⟩ := hgo
      have hm := (sub_iff m d).1 hsub
      split at h
      · rename_i hwant
        refine go undef A _ (.refl _) (fun r hr' => ?_) (CI.add hr hc hrow hnd hm undef (fun r hr' => ?_) ⟨fun r hr' => List.mem_cons_of_mem _ hr', fun _ => ⟨_, List.mem_cons_self, rfl⟩⟩) hch (noNew fun i o fi b x e => by cases e) h
        · rcases List.mem_cons.1 hr' with rfl | hr'
          · exact .inr fun i o fi b x e => by cases e
          · exact .inl hr'
        · rcases List.mem_cons.1 hr' with rfl | hr'
          · exact .inr ⟨rfl, rfl, rfl, hch, hwant, rfl⟩
          · exact .inl hr'
      · cases h
      · rename_i hwant
        split at h
        · rename_i v A' hop
          split at h
          · rename_i hal
            refine go v A _ (.refl _) (fun r hr' => ?_) (CI.add hr hc hrow hnd hm v (fun r hr' => ?_) ⟨fun r hr' => List.mem_cons_of_mem _ hr', fun _ => ⟨_, List.mem_cons_self, rfl⟩⟩) hch (noNew fun i o fi b x e => by cases e) h
            · rcases List.mem_cons.1 hr' with rfl | hr'
              · exact .inr fun i o fi b x e => by cases e
              · exact .inl hr'
            · rcases List.mem_cons.1 hr' with rfl | hr'
              · exact .inr ⟨rfl, rfl, rfl, hch, hwant, hal, rfl⟩
              · exact .inl hr'
          · rename_i hal
            obtain ⟨v1, y, A1, e1, hn⟩ := alloc_grow hal hop
            cases e1
            split at h
            · rename_i x hx
              have hlt := (AW.new_some hn).2.1
              refine go v A' _ (.new hn) (fun r hr' => ?_) (CI.add hr hc hrow hnd hm v (fun r hr' => ?_) ⟨fun r hr' => List.mem_cons_of_mem _ hr', fun _ => ⟨_, List.mem_cons_self, rfl⟩⟩) hch (fun h1 h2 => ⟨fun i o fi b x hm => ?_, fun i o fi x i' o' fi' x' b hm hm' => ?_⟩) h
              rotate_left 2
              · rcases List.mem_cons.1 hm with e | hm
                · cases e; omega
                · have := h1 i o fi b x hm; omega
              · rcases List.mem_cons.1 hm with e | hm <;> rcases List.mem_cons.1 hm' with e' | hm'
                · cases e; cases e'; rfl
                · cases e
                  have := h1 _ _ _ _ _ hm'
                  omega
                · cases e'
                  have := h1 _ _ _ _ _ hm
                  omega
                · exact h2 i o fi x i' o' fi' x' b hm hm'
              · rcases List.mem_cons.1 hr' with rfl | hr'
                · refine .inr fun i o fi b x e => ?_
                  cases e
                  exact ⟨Nat.le_refl _, by omega⟩
                · exact .inl hr'
              · rcases List.mem_cons.1 hr' with rfl | hr'
                · exact .inr ⟨rfl, rfl, rfl, hch, hwant, hal, A, A', rfl, hop, hx⟩
                · exact .inl hr'
            · cases h
        · cases h
end
end Ax

/-
The abstract run, part 24: a region whose order is drawn: the law.
-/
namespace Ax
open Go

/-! ### A block that is laid later than in the abstract run -/
theorem Rel.fill {cx : Cx} {A : AW} {w : World} (h : Rel cx A w) {b : Nat} {x : Blk} {o : Obj} (hm : cx.m b = none) (hx : A.get b = some x) (hb : BRel (cx.add b w.heap.size none) b x o) :
    Rel (cx.add b w.heap.size none) A { w with heap := w.heap.push o } := by
  have hext : Ext cx (cx.add b w.heap.size none) := Cx.add_ext hm
  refine ⟨fun c y r hy hr => ?_, fun c c' r hc hc' => ?_, fun c r hr => ?_, h.top, h.has⟩
  · by_cases e : c = b
    · subst e
      rw [Cx.add_m] at hr; cases hr
      rw [hx] at hy; cases hy
      exact ⟨o, by simp, hb⟩
    · rw [Cx.add_m_ne _ e] at hr
      obtain ⟨o', h1, h2⟩ := h.blk c y r hy hr
      refine ⟨o', ?_, h2.ext hext hr⟩
      show (w.heap.push o)[r]? = _
      rw [Array.getElem?_push, if_neg (by have := h.rng c r hr; omega)]
      exact h1
  · by_cases e : c = b <;> by_cases e' : c' = b
    · exact .inr (.inr (e.trans e'.symm))
    · subst e
      rw [Cx.add_m] at hc; cases hc
      rw [Cx.add_m_ne _ e'] at hc'
      exact absurd (h.rng c' _ hc') (by omega)
    · subst e'
      rw [Cx.add_m] at hc'; cases hc'
      rw [Cx.add_m_ne _ e] at hc
      exact absurd (h.rng c _ hc) (by omega)
    · rw [Cx.add_m_ne _ e] at hc
      rw [Cx.add_m_ne _ e'] at hc'
      exact h.inj c c' r hc hc'
  · show r < (w.heap.push o).size
    rw [Array.size_push]
    by_cases e : c = b
    · subst e; rw [Cx.add_m] at hr; cases hr; omega
    · rw [Cx.add_m_ne _ e] at hr; have := h.rng c r hr; omega
theorem Step.fill {cx0 cx : Cx} {A0 A : AW} {w0 w : World} (h : Step cx0 A0 w0 cx A w) {b : Nat} {x : Blk} {o : Obj} (hm : cx.m b = none) (h0 : A0.n ≤ b) (hlt : b < A.n) (hx : A.get b = some x) (hb : BRel (cx.add b w.heap.size none) b x o) :
    Step cx0 A0 w0 (cx.add b w.heap.size none) A { w with heap := w.heap.push o } where
  ext := h.ext.trans (Cx.add_ext hm)
  out := fun c hc => by
    have e : c ≠ b := fun e => hc (by subst e; exact ⟨h0, hlt⟩)
    rw [Cx.add_m_ne _ e, Cx.add_g_ne _ e]
    exact h.out c hc
  le := h.le
  rel := h.rel.fill hm hx hb
  size := by show w0.heap.size ≤ (w.heap.push o).size; rw [Array.size_push]; have := h.size; omega
  frame := fun r hr' hd => by
    show (w.heap.push o)[r]? = _
    rw [Array.getElem?_push, if_neg (by have := h.size; omega)]
    exact h.frame r hr' hd
  new := fun c r h1 h2 hr => by
    by_cases e : c = b
    · subst e; rw [Cx.add_m] at hr; cases hr
      exact .inl h.size
    · rw [Cx.add_m_ne _ e] at hr
      exact h.new c r h1 h2 hr
  dead := h.dead
  os := h.os
  tape := h.tape
  output := h.output

theorem recheck_spec {E : Env} {A : AW} {s : Nat} : ∀ {rs : List Rec}, recheck E A s rs = true → ∀ r ∈ rs, match r with
    | .val i o f v => tb s i = true ∨ ∃ A', aop E A (f.eval E.ng) o = some (.val v A')
    | .new i _ _ b x => tb s i = true ∨ A.get b = some x
    | .no _ _ _ => True := by
  intro rs
  induction rs with
  | nil => intro _ r hr; simp at hr
  | cons r0 rs ih =>
    intro h r hr
    unfold recheck at h
    split at h
    · cases ‹r0 :: rs = []›
    · rename_i i o f r' e
      cases e
      rcases List.mem_cons.1 hr with rfl | hr
      · trivial
      · exact ih h r hr
    · rename_i i o f v r' e
      cases e
      split at h
      · rename_i ht
        rcases List.mem_cons.1 hr with rfl | hr
        · exact .inl ht
        · exact ih h r hr
      · split at h
        · rename_i v' A' hop
          split at h
          · rename_i hv
            rcases List.mem_cons.1 hr with rfl | hr
            · refine .inr ⟨A', ?_⟩
              rw [hop, veq_eq 8 _ _ hv]
            · exact ih h r hr
          · cases h
        · cases h
    · rename_i i o f b x r' e
      cases e
      split at h
      · rename_i ht
        rcases List.mem_cons.1 hr with rfl | hr
        · exact .inl ht
        · exact ih h r hr
      · split at h
        · rename_i y hy
          split at h
          · rename_i hs
            rcases List.mem_cons.1 hr with rfl | hr
            · exact .inr (by rw [hy, blkSame_eq hs])
            · exact ih h r hr
          · cases h
        · cases h

/-- what is left to do behind a pass -/
noncomputable def contD (E : Env) (ih : Task → Option Res) (all : List Oper) (n : Nat) (ds : DS) : Option (Fr × AW) :=
  match ds.pend with
  | [] => some (ds.f, ds.A)
  | (c, o, m) :: r => match sub m ds.done && chainOp o.op with
    | true => match wantedA all ds.f o with
      | some true => match oneOp E ih ds.f ds.A o with
        | some (v, A2) => runD E ih all n r (Nat.lor ds.done (Nat.pow 2 c)) m (ds.f.put o.dst v) A2 ds.recs
        | none => none
      | some false => runD E ih all n r (Nat.lor ds.done (Nat.pow 2 c)) m (ds.f.put o.dst undef) ds.A ds.recs
      | none => none
    | false => none
theorem runD_stage {E : Env} {ih : Task → Option Res} {all : List Oper} {n : Nat} {p : List Row} {d s : Nat} {f : Fr} {A : AW} {rs : List Rec} {r : Fr × AW} (h : runD E ih all n p d s f A rs = some r) :
    ∃ n' ds, passD E all p d f A rs = some ds ∧ recheck E ds.A s ds.recs = true ∧ contD E ih all n' ds = some r := by
  cases n with
  | zero => simp [runD] at h
  | succ n =>
    unfold runD at h
    split at h
    · rename_i p' d' f' A' rs' hp
      split at h
      · rename_i hc
        exact ⟨n, _, hp, hc, h⟩
      · cases h
    · cases h

/-- a state of the abstract run, behind a pass -/
structure Stage (E : Env) (ih : Task → Option Res) (ops : Array Oper) (rows : List Row) (f0 : Fr) (fe : Fr) (Ae : AW) (n s : Nat) (ds : DS) : Prop where
  ci : CI E ops rows f0 ds.done ds.f ds.recs
  pend : ∀ x ∈ ds.pend, x ∈ rows ∧ tb ds.done x.1 = false ∧ (chainOp x.2.1.op = true ∨ ∃ j, tb x.2.2 j = true ∧ tb ds.done j = false)
  sorted : ds.pend.Pairwise (fun x y => x.1 < y.1)
  cover : ∀ x ∈ rows, x ∈ ds.pend ∨ tb ds.done x.1 = true
  check : recheck E ds.A s ds.recs = true
  cont : contD E ih ops.toList n ds = some (fe, Ae)
  newLt : NewLt ds.recs ds.A.n
  newDist : NewDist ds.recs

def L (listed : Array Bool) (i : Nat) : Prop := listed.getD i false = true
theorem L_set {listed : Array Bool} {i j : Nat} (hi : i < listed.size) : L (listed.setIfInBounds i true) j ↔ L listed j ∨ i = j := by
  unfold L
  by_cases e : i = j
  · subst e; simp [hi]
  · rw [getD_set_ne false e]; simp [e]

/-- the real state beside it -/
structure RI (ops : Array Oper) (rows : List Row) (f0 : Fr) (cx0 : Cx) (A0 : AW) (w0 : World) (s : Nat) (ds : DS) (listed : Array Bool) (a : Act) (w : World) (cx : Cx) : Prop where
  size : listed.size = ops.size
  inD : ∀ i, L listed i → tb ds.done i = true
  chain : ∀ i o m, (i, o, m) ∈ rows → tb ds.done i = true → chainOp o.op = true → L listed i
  sure : ∀ j, tb s j = true → L listed j
  down : ∀ i o m j, (i, o, m) ∈ rows → L listed i → tb m j = true → L listed j
  step : Step cx0 A0 w0 cx ds.A w
  top : Top cx ds.A.n
  fresh : ∀ i o fi b x, Rec.new i o fi b x ∈ ds.recs → ¬ L listed i → cx.m b = none ∧ cx.g b = none ∧ A0.n ≤ b
  tsz : f0.n = a.tmps.size
  t1 : ∀ t, (∀ k o m, (k, o, m) ∈ rows → tb ds.done k = true → o.dst = some t → L listed k) → VRel cx (ds.f.get t) (a.tmps.getD t undef)
  t2 : ∀ k o m t, (k, o, m) ∈ rows → tb ds.done k = true → ¬ L listed k → o.dst = some t → VRel cx (f0.get t) (a.tmps.getD t undef)
  dfr : DRel cx f0.defers a.defers

section
open Classical
variable {P : Program} {E : Env} (hE : EnvOk P E) {ih : Task → Option Res} (hI : IhOk P E ih) {F : Fence} (hF : FOk F)
variable {ops : Array Oper} {rows : List Row} (hr : RegFacts ops rows) {f0 fe : Fr} {Ae : AW} {cx0 : Cx} {A0 : AW} {w0 : World} (hG : Glob E cx0)
variable {Q : Exit → Act → World → Prop} (hQ : ∀ cx' a' w', Step cx0 A0 w0 cx' Ae w' → FRel cx' fe a' → Q .normal a' w')

theorem tmpsOf_mem {l : List Operand} {t : Nat} (h : Operand.tmp t ∈ l) : t ∈ tmpsOf l := by
  induction l with
  | nil => simp at h
  | cons x l ih =>
    rcases List.mem_cons.1 h with rfl | h'
    · simp [tmpsOf]
    · cases x <;> simp only [tmpsOf] <;> first | exact List.mem_cons_of_mem _ (ih h') | exact ih h'
theorem looks_operand {o : Oper} {all : List Oper} {t : Nat} (h : Operand.tmp t ∈ o.op.operands) : t ∈ looksL all o := by
  have h := tmpsOf_mem (show Operand.tmp t ∈ o.op.operands.toList by simpa using h)
  unfold looksL
  repeat' split
  all_goals first | exact h | exact List.mem_cons_of_mem _ h
theorem looks_guard {o oj : Oper} {j t : Nat} {w : Bool} (hg : o.guard = some (j, w)) (hj : ops[j]? = some oj) (ht : oj.dst = some t) : t ∈ looksL ops.toList o := by
  unfold looksL
  rw [hg]
  simp only [lget_eq, Array.getElem?_toList, hj, ht]
  exact List.mem_cons_self

/-- what an operation looks at is known of: the rest need not be -/
noncomputable def masked (o : Oper) (ρ : Operand → V) (x : Operand) : V := if x ∈ o.op.operands then ρ x else unk
theorem aop_masked {A : AW} {o : Oper} {ρ : Operand → V} : aop E A (masked o ρ) o = aop E A ρ o := aop_congr fun x hx => by unfold masked; rw [if_pos hx]
theorem masked_rel {cx : Cx} {a : Act} {f : Fr} {o : Oper} (hg : Glob E cx) (h : ∀ t, t ∈ looksL ops.toList o → VRel cx (f.get t) (a.tmps.getD t undef)) (x : Operand) : VRel cx (masked o (f.eval E.ng) x) (a.eval x) := by
  unfold masked
  split
  · rename_i hx
    rw [eval_eq]
    exact evalG_rel hg fun t e => h t (looks_operand (by rw [← e]; exact hx))
  · exact .unk _ _

theorem ready_spec {i : Nat} {listed : Array Bool} (hsz : listed.size = ops.size) (h : i ∈ Region.ready .any ops listed) : i < ops.size ∧ ¬ L listed i ∧ ∃ o, ops[i]? = some o ∧ ∀ e ∈ o.after, Region.binds .any e = true → L listed e.on := by
  obtain ⟨h1, o, h2, h3⟩ := mem_ready.1 h
  have hlt := (Array.getElem?_eq_some_iff.1 h2).1
  refine ⟨hlt, fun hl => ?_, o, h2, h3⟩
  unfold L at hl
  simp [hsz, hlt] at h1 hl
  rw [h1] at hl; cases hl
include hr in
theorem ready_nil {listed : Array Bool} (hsz : listed.size = ops.size) (h : Region.ready .any ops listed = []) : ∀ i, i < ops.size → L listed i := by
  intro i
  induction i using Nat.strongRecOn with
  | _ i ih1 =>
    intro hi
    refine Classical.byContradiction fun hl => ?_
    have ho : ops[i]? = some ops[i] := by simp [hi]
    obtain ⟨m, hm⟩ := hr.ex i _ ho
    have : i ∈ Region.ready .any ops listed := mem_ready.2 ⟨by
      unfold L at hl
      simp [hsz, hi] at hl ⊢
      exact hl, _, ho, fun e he hb => by
        have hlt := hr.edge i _ m e hm he hb
        exact ih1 e.on hlt (by omega)⟩
    rw [h] at this
    simp at this

def unl (ops : Array Oper) (listed : Array Bool) : Nat := ((List.range ops.size).filter fun i => !(listed.getD i false)).length
theorem unl_set {listed : Array Bool} {i : Nat} (hsz : listed.size = ops.size) (hi : i < ops.size) (hl : ¬ L listed i) : unl ops (listed.setIfInBounds i true) < unl ops listed := by
  have hsub : ∀ l : List Nat, (l.filter fun j => !((listed.setIfInBounds i true).getD j false)).length ≤ (l.filter fun j => !(listed.getD j false)).length ∧
      (i ∈ l → (l.filter fun j => !((listed.setIfInBounds i true).getD j false)).length < (l.filter fun j => !(listed.getD j false)).length) := by
    intro l
    induction l with
    | nil => exact ⟨Nat.le_refl _, fun h => by simp at h⟩
    | cons j l ihl =>
      have key : (listed.setIfInBounds i true).getD j false = true ↔ listed.getD j false = true ∨ i = j := L_set (by omega)
      have hkeep : i ≠ j → (listed.setIfInBounds i true).getD j false = listed.getD j false := fun e => getD_set_ne false e
      by_cases e : i = j
      · subst e
        have h1 : (listed.setIfInBounds i true).getD i false = true := key.2 (.inr rfl)
        have h2 : listed.getD i false = false := by
          cases hb : listed.getD i false with
          | false => rfl
          | true => exact absurd hb hl
        simp only [List.filter_cons, h1, h2, Bool.not_true, Bool.not_false, if_true, if_false, Bool.false_eq_true, List.length_cons]
        exact ⟨by omega, fun _ => by omega⟩
      · rw [List.filter_cons, List.filter_cons, hkeep e]
        split
        · simp only [List.length_cons]
          exact ⟨by omega, fun hm => by
            rcases List.mem_cons.1 hm with h | h
            · exact absurd h e
            · have := ihl.2 h; omega⟩
        · exact ⟨ihl.1, fun hm => by
            rcases List.mem_cons.1 hm with h | h
            · exact absurd h e
            · exact ihl.2 h⟩
  exact (hsub _).2 (by simpa using hi)
theorem unl_zero {listed : Array Bool} (h : unl ops listed = 0) : ∀ i, i < ops.size → L listed i := fun i hi => by
  unfold unl at h
  have h := List.eq_nil_of_length_eq_zero h
  rw [List.filter_eq_nil_iff] at h
  have := h i (by simpa using hi)
  unfold L
  simpa using this

include hr hQ in
theorem region_end {n s : Nat} {ds : DS} {listed : Array Bool} {a : Act} {w : World} {cx : Cx} (hs : Stage E ih ops rows f0 fe Ae n s ds) (hi : RI ops rows f0 cx0 A0 w0 s ds listed a w cx) (hall : ∀ i, i < ops.size → L listed i) : Q .normal a w := by
  have hrow : ∀ i o m, (i, o, m) ∈ rows → L listed i := fun i o m h => hall i (Array.getElem?_eq_some_iff.1 (hr.get i o m h)).1
  have hp : ds.pend = [] := by
    cases hp : ds.pend with
    | nil => rfl
    | cons x r =>
      obtain ⟨h1, h2, -⟩ := hs.pend x (by rw [hp]; exact List.mem_cons_self)
      have := hi.inD x.1 (hrow x.1 x.2.1 x.2.2 h1)
      rw [h2] at this; cases this
  have hc := hs.cont
  unfold contD at hc
  rw [hp] at hc
  simp only [Option.some.injEq, Prod.mk.injEq] at hc
  obtain ⟨rfl, rfl⟩ := hc
  exact hQ cx a w hi.step ⟨by rw [hs.ci.n, hs.ci.d]; exact hs.ci.ok, ⟨by rw [hs.ci.n]; exact hi.tsz, fun t => hi.t1 t fun k o m hk _ _ => hrow k o m hk⟩, by rw [hs.ci.defers]; exact hi.dfr⟩
end
end Ax

/-
The abstract run, part 25: a region whose order is drawn: every order.
-/
namespace Ax
open Go

section
open Classical
variable {P : Program} {E : Env} (hE : EnvOk P E) {ih : Task → Option Res} (hI : IhOk P E ih) {F : Fence} (hF : FOk F)
variable {ops : Array Oper} {rows : List Row} (hr : RegFacts ops rows) {f0 fe : Fr} {Ae : AW} {cx0 : Cx} {A0 : AW} {w0 : World} (hG : Glob E cx0)
variable {Q : Exit → Act → World → Prop} (hQ : ∀ cx' a' w', Step cx0 A0 w0 cx' Ae w' → FRel cx' fe a' → Q .normal a' w')

include hr in
/-- what is before an operation that is ready has been carried out -/
theorem ready_anc {listed : Array Bool} {s : Nat} {ds : DS} {a : Act} {w : World} {cx : Cx} (hi : RI ops rows f0 cx0 A0 w0 s ds listed a w cx) {i : Nat} {o : Oper} {m : Nat} (hrow : (i, o, m) ∈ rows)
    (he : ∀ e ∈ o.after, Region.binds .any e = true → L listed e.on) : ∀ j, tb m j = true → L listed j := fun j hj => by
  obtain ⟨e, h1, h2, h3⟩ := hr.back i o m j hrow hj
  rcases h3 with rfl | ⟨o', m', h4, h5⟩
  · exact he e h1 h2
  · exact hi.down _ _ _ j h4 (he e h1 h2) h5

include hr in
/-- the temporaries at which an operation looks that has been carried out in the abstract run alone -/
theorem looks_done {n s : Nat} {ds : DS} {listed : Array Bool} {a : Act} {w : World} {cx : Cx} (hs : Stage E ih ops rows f0 fe Ae n s ds) (hi : RI ops rows f0 cx0 A0 w0 s ds listed a w cx) {r : Rec} (hrec : r ∈ ds.recs) (hl : ¬ L listed r.i)
    (hanc : ∀ m, (r.i, r.o, m) ∈ rows → ∀ j, tb m j = true → L listed j) : ∀ t, t ∈ looksL ops.toList r.o → VRel cx (r.f.get t) (a.tmps.getD t undef) := fun t ht => by
  have hk := hs.ci.recs r hrec
  obtain ⟨m, hrow, hd, hch, hlook⟩ := hk.row
  by_cases hw : ∃ k ok mk, (k, ok, mk) ∈ rows ∧ ok.dst = some t
  · obtain ⟨k, ok, mk, hk1, hk2⟩ := hw
    obtain ⟨h1, h2⟩ := hlook t k ok mk hk1 hk2 ht
    cases hb : tb m k with
    | true =>
      rw [h1 hb]
      refine hi.t1 t fun k' o' m' hk' _ hd' => ?_
      have := one_writer hr hk' hk1 hd' hk2
      subst this
      exact hanc m hrow k' hb
    | false =>
      rw [h2 hb]
      have hnk : ¬ L listed k := fun hlk => by
        by_cases e : k = r.i
        · exact hl (e ▸ hlk)
        · rcases ((pair_spec (hr.pair _ _ _ _ _ _ hrow hk1) (fun h => e h.symm)).2 t hk2).2 ht with h | h
          · rw [hb] at h; cases h
          · exact hl (hi.down _ _ _ _ hk1 hlk h)
      cases hdk : tb ds.done k with
      | true => exact hi.t2 k ok mk t hk1 hdk hnk hk2
      | false =>
        have hun : ∀ k' o' m', (k', o', m') ∈ rows → tb ds.done k' = true → o'.dst ≠ some t := fun k' o' m' hk' hd' he => by
          have := one_writer hr hk' hk1 he hk2
          subst this
          rw [hdk] at hd'; cases hd'
        rw [← hs.ci.un t hun]
        exact hi.t1 t fun k' o' m' hk' hd' he => absurd he (hun k' o' m' hk' hd')
  · have hno : ∀ k ok mk, (k, ok, mk) ∈ rows → ok.dst ≠ some t := fun k ok mk h1 h2 => hw ⟨k, ok, mk, h1, h2⟩
    rw [hk.free t hno, ← hs.ci.un t fun k o' m' h _ => hno k o' m' h]
    exact hi.t1 t fun k o' m' h _ he => absurd he (hno k o' m' h)

include hr in
/-- an operation that the abstract run has carried out is carried out -/
theorem RI.list {n s : Nat} {ds : DS} {listed : Array Bool} {a : Act} {w : World} {cx : Cx} (hs : Stage E ih ops rows f0 fe Ae n s ds) (hi : RI ops rows f0 cx0 A0 w0 s ds listed a w cx) {i : Nat} {o : Oper} {m : Nat} (hrow : (i, o, m) ∈ rows) (hlt : i < ops.size)
    (hd : tb ds.done i = true) (hanc : ∀ j, tb m j = true → L listed j) {cx' : Cx} {w' : World} {v' : V} (hx : Ext cx cx') (hst : Step cx0 A0 w0 cx' ds.A w') (htop : Top cx' ds.A.n)
    (hfresh : ∀ i' o' fi b x, Rec.new i' o' fi b x ∈ ds.recs → ¬ L listed i' → i' ≠ i → cx'.m b = none ∧ cx'.g b = none) (hv : ∀ t, o.dst = some t → t < ds.f.n → VRel cx' (ds.f.get t) v') :
    RI ops rows f0 cx0 A0 w0 s ds (listed.setIfInBounds i true) (a.put o.dst v') w' cx' := by
  have hls : ∀ j, L (listed.setIfInBounds i true) j ↔ L listed j ∨ i = j := fun j => L_set (by rw [hi.size]; exact hlt)
  refine ⟨by simp [hi.size], fun j hj => ?_, fun j o' m' h1 h2 h3 => ?_, fun j hj => ?_, fun j o' m' k h1 h2 h3 => ?_, hst, htop, fun i' o' fi b x h1 h2 => ?_, by rw [act_put_size]; exact hi.tsz, fun t ht => ?_, fun k o' m' t h1 h2 h3 h4 => ?_, by rw [act_put_defers]; exact hi.dfr.ext hx⟩
  · rcases (hls j).1 hj with h | rfl
    · exact hi.inD j h
    · exact hd
  · exact (hls j).2 (.inl (hi.chain j o' m' h1 h2 h3))
  · exact (hls j).2 (.inl (hi.sure j hj))
  · rcases (hls j).1 h2 with h | rfl
    · exact (hls k).2 (.inl (hi.down j o' m' k h1 h h3))
    · obtain ⟨rfl, rfl⟩ := same_row hr hrow h1
      exact (hls k).2 (.inl (hanc k h3))
  · have h3 : ¬ L listed i' := fun h => h2 ((hls i').2 (.inl h))
    have h4 := hfresh i' o' fi b x h1 h3 fun e => h2 ((hls i').2 (.inr e.symm))
    exact ⟨h4.1, h4.2, (hi.fresh i' o' fi b x h1 h3).2.2⟩
  · rw [act_put_get]
    have hn : ds.f.n = a.tmps.size := hs.ci.n.trans hi.tsz
    split
    · rename_i hc
      exact hv t hc.1 (by rw [hn]; exact hc.2)
    · rename_i hc
      by_cases hdst : o.dst = some t
      · have hge : ¬ t < ds.f.n := fun h => hc ⟨hdst, by rw [← hn]; exact h⟩
        rw [Fr.get_ge hge]
        have : a.tmps.getD t undef = undef := by
          rw [Array.getD_eq_getD_getElem?, Array.getElem?_eq_none (by rw [← hn]; exact Nat.le_of_not_lt hge)]; rfl
        rw [this]
        exact undef_rel cx'
      · refine (hi.t1 t fun k o' m' h1 h2 h3 => ?_).ext hx
        rcases (hls k).1 (ht k o' m' h1 h2 h3) with h | rfl
        · exact h
        · obtain ⟨rfl, rfl⟩ := same_row hr hrow h1
          exact absurd h3 hdst
  · have hki : k ≠ i := fun e => h3 ((hls k).2 (.inr e.symm))
    rw [act_put_get, if_neg]
    · exact (hi.t2 k o' m' t h1 h2 (fun h => h3 ((hls k).2 (.inl h))) h4).ext hx
    · rintro ⟨h5, -⟩
      exact hki (one_writer hr h1 hrow h4 h5)

include hr in
/-- an operation that may change something, and the pass behind it -/
theorem RI.chain_next {n s n' : Nat} {ds ds' : DS} {listed : Array Bool} {a : Act} {w : World} {cx : Cx} (hs : Stage E ih ops rows f0 fe Ae n s ds) (hi : RI ops rows f0 cx0 A0 w0 s ds listed a w cx) {i : Nat} {o : Oper} {m : Nat} {r : List Row} (hp : ds.pend = (i, o, m) :: r)
    (hch : chainOp o.op = true) (hlt : i < ops.size) (hanc : ∀ j, tb m j = true → L listed j) {cx' : Cx} {w' : World} {v v' : V} {A2 : AW} (hst : Step cx ds.A w cx' A2 w') (hv : VRel cx' v v')
    (hpass : passD E ops.toList r (Nat.lor ds.done (Nat.pow 2 i)) (ds.f.put o.dst v) A2 ds.recs = some ds') (hchk : recheck E ds'.A m ds'.recs = true) (hcont : contD E ih ops.toList n' ds' = some (fe, Ae)) :
    Stage E ih ops rows f0 fe Ae n' m ds' ∧ RI ops rows f0 cx0 A0 w0 m ds' (listed.setIfInBounds i true) (a.put o.dst v') w' cx' := by
  have hls : ∀ j, L (listed.setIfInBounds i true) j ↔ L listed j ∨ i = j := fun j => L_set (by rw [hi.size]; exact hlt)
  obtain ⟨hrow, hnd, -⟩ := hs.pend (i, o, m) (by rw [hp]; exact List.mem_cons_self)
  have hnd : tb ds.done i = false := hnd
  have hsub : ∀ j, tb m j = true → tb ds.done j = true := fun j hj => hi.inD j (hanc j hj)
  have hci := CI.add hr hs.ci hrow hnd hsub v (rs' := ds.recs) (fun r hr' => .inl hr') ⟨fun r hr' => hr', fun h => by rw [hch] at h; cases h⟩
  have hsorted := hs.sorted
  rw [hp] at hsorted
  obtain ⟨hs1, hs2⟩ := List.pairwise_cons.1 hsorted
  have k := passD_ok hr r _ _ _ _ _ hs2 (fun x hx => by
    obtain ⟨h1, h2, -⟩ := hs.pend x (by rw [hp]; exact List.mem_cons_of_mem _ hx)
    refine ⟨h1, ?_⟩
    cases hb : tb (Nat.lor ds.done (Nat.pow 2 i)) x.1 with
    | false => rfl
    | true =>
      rw [tb_add] at hb
      rcases hb with hb | hb
      · rw [h2] at hb; cases hb
      · have h3 : i < x.1 := hs1 x hx
        omega) hci hpass
  have hle : ds.A.n ≤ A2.n := hst.le
  have hd := k.dist (fun i o fi b x hm => by have := hs.newLt i o fi b x hm; omega) hs.newDist
  have htop2 := hst.top hi.top
  have hfd : ds.f.n ≤ 16 ^ ds.f.d := by rw [hs.ci.n, hs.ci.d]; exact hs.ci.ok
  have hn : ds.f.n = a.tmps.size := hs.ci.n.trans hi.tsz
  refine ⟨⟨k.ci, fun x hx => ?_, k.sorted, fun x hx => ?_, hchk, hcont, hd.1, hd.2⟩, ⟨by simp [hi.size], fun j hj => ?_, fun j o' m' h1 h2 h3 => ?_, fun j hj => (hls j).2 (.inl (hanc j hj)), fun j o' m' j' h1 h2 h3 => ?_, (hi.step.trans hst).grow k.grow htop2, fun b hb => htop2 b (by have := k.grow.le; omega), fun i' o' fi b x h1 h2 => ?_, by rw [act_put_size]; exact hi.tsz, fun t ht => ?_, fun k' o' m' t h1 h2 h3 h4 => ?_, by rw [act_put_defers]; exact hi.dfr.ext hst.ext⟩⟩
  · obtain ⟨h1, h2, h3⟩ := k.pend x hx
    exact ⟨(hs.pend x (by rw [hp]; exact List.mem_cons_of_mem _ h1)).1, h2, h3⟩
  · rcases hs.cover x hx with h | h
    · rw [hp] at h
      rcases List.mem_cons.1 h with rfl | h
      · exact .inr (k.up i (by rw [tb_add]; exact .inr rfl))
      · exact k.cover x h
    · exact .inr (k.up x.1 (by rw [tb_add]; exact .inl h))
  · rcases (hls j).1 hj with h | rfl
    · exact k.up j (by rw [tb_add]; exact .inl (hi.inD j h))
    · exact k.up i (by rw [tb_add]; exact .inr rfl)
  · rcases k.from_ j h2 with h | ⟨o2, m2, h4, h5⟩
    · rw [tb_add] at h
      rcases h with h | rfl
      · exact (hls j).2 (.inl (hi.chain j o' m' h1 h h3))
      · exact (hls i).2 (.inr rfl)
    · have h6 := (hs.pend _ (by rw [hp]; exact List.mem_cons_of_mem _ h4)).1
      obtain ⟨rfl, rfl⟩ := same_row hr h1 h6
      rw [h3] at h5; cases h5
  · rcases (hls j).1 h2 with h | rfl
    · exact (hls j').2 (.inl (hi.down j o' m' j' h1 h h3))
    · obtain ⟨rfl, rfl⟩ := same_row hr hrow h1
      exact (hls j').2 (.inl (hanc j' h3))
  · rcases k.recs _ h1 with h | h
    · obtain ⟨h3, h4, h5⟩ := hi.fresh i' o' fi b x h fun hl => h2 ((hls i').2 (.inl hl))
      have hb := hs.newLt i' o' fi b x h
      have ho := hst.out b (by omega)
      exact ⟨ho.1.trans h3, ho.2.trans h4, h5⟩
    · have hb := (h i' o' fi b x rfl).1
      have := hi.step.le
      exact ⟨(htop2 b hb).1, (htop2 b hb).2, by omega⟩
  · have hsame : ds'.f.get t = (ds.f.put o.dst v).get t := k.same t fun k' o' m' h1 h2 h3 h4 => by
      rcases (hls k').1 (ht k' o' m' h1 h2 h4) with h | rfl
      · have : tb (Nat.lor ds.done (Nat.pow 2 i)) k' = true := by rw [tb_add]; exact .inl (hi.inD k' h)
        rw [h3] at this; cases this
      · have : tb (Nat.lor ds.done (Nat.pow 2 i)) i = true := by rw [tb_add]; exact .inr rfl
        rw [h3] at this; cases this
    rw [hsame, Fr.get_put hfd, act_put_get, hn]
    split
    · exact hv
    · refine (hi.t1 t fun k' o' m' h1 h2 h3 => ?_).ext hst.ext
      rcases (hls k').1 (ht k' o' m' h1 (k.up k' (by rw [tb_add]; exact .inl h2)) h3) with h | rfl
      · exact h
      · rw [hnd] at h2; cases h2
  · have hki : k' ≠ i := fun e => h3 ((hls k').2 (.inr e.symm))
    have hnl : ¬ L listed k' := fun h => h3 ((hls k').2 (.inl h))
    rw [act_put_get, if_neg (fun h => hki (one_writer hr h1 hrow h4 h.1))]
    cases hb : tb ds.done k' with
    | true => exact (hi.t2 k' o' m' t h1 hb hnl h4).ext hst.ext
    | false =>
      have hun : ∀ k2 o2 m2, (k2, o2, m2) ∈ rows → tb ds.done k2 = true → o2.dst ≠ some t := fun k2 o2 m2 h5 h6 h7 => by
        have := one_writer hr h5 h1 h7 h4
        subst this
        rw [hb] at h6; cases h6
      rw [← hs.ci.un t hun]
      exact (hi.t1 t fun k2 o2 m2 h5 h6 h7 => absurd h7 (hun k2 o2 m2 h5 h6)).ext hst.ext

theorem wpOp_row {i : Nat} {o : Oper} (ho : ops[i]? = some o) {K : Act → World → Prop} {a : Act} {w : World} {b : Bool} (hb : Region.wanted o (yielded ops a.tmps) = b)
    (h : if b then o.wpIn F 0 P a w K Q else K (a.put o.dst undef) w) (hF : FOk F) : wpOpIn F 0 P ops Q i K a w := by
  unfold wpOpIn
  rw [ho]
  simp only [hb]
  cases b with
  | true => simpa using h
  | false => exact ⟨fun f _ => hF.fn f, by simpa using h⟩

include hE hI hF hr hG hQ in
theorem region_any : ∀ (fuel : Nat) (n s : Nat) (ds : DS) (listed : Array Bool) (a : Act) (w : World) (cx : Cx), unl ops listed ≤ fuel → Stage E ih ops rows f0 fe Ae n s ds → RI ops rows f0 cx0 A0 w0 s ds listed a w cx →
    wpAnyIn F 0 P .any ops Q fuel listed a w := by
  intro fuel
  induction fuel with
  | zero =>
    intro n s ds listed a w cx hu hs hi
    have hall := unl_zero (ops := ops) (listed := listed) (by omega)
    refine ⟨?_, region_end hr hQ hs hi hall⟩
    refine List.eq_nil_iff_forall_not_mem.2 fun i hm => ?_
    obtain ⟨h1, h2, -⟩ := ready_spec hi.size hm
    exact h2 (hall i h1)
  | succ fuel ihf =>
    intro n s ds listed a w cx hu hs hi
    refine ⟨fun h => region_end hr hQ hs hi (ready_nil hr hi.size h), fun i hm => ?_⟩
    obtain ⟨hlt, hnl, o, ho, hedge⟩ := ready_spec hi.size hm
    obtain ⟨m, hrow⟩ := hr.ex i o ho
    have hanc := ready_anc hr hi hrow hedge
    have hGc : Glob E cx := hG.ext hi.step.ext
    have hu' : unl ops (listed.setIfInBounds i true) ≤ fuel := by
      have := unl_set (ops := ops) hi.size hlt hnl
      omega
    cases hch : chainOp o.op with
    | true =>
      have hnd : tb ds.done i = false := by
        cases hb : tb ds.done i with
        | false => rfl
        | true => exact absurd (hi.chain i o m hrow hb hch) hnl
      have hpe : (i, o, m) ∈ ds.pend := by
        rcases hs.cover _ hrow with h | h
        · exact h
        · rw [hnd] at h; cases h
      have hcont := hs.cont
      unfold contD at hcont
      split at hcont
      · rename_i hp
        rw [hp] at hpe; simp at hpe
      · rename_i c oc mc r hp
        split at hcont
        · rename_i hcc
          simp only [Bool.and_eq_true] at hcc
          obtain ⟨hsub, hcc⟩ := hcc
          have hci : c = i := by
            rw [hp] at hpe
            rcases List.mem_cons.1 hpe with e | hmem
            · cases e; rfl
            · have hsorted := hs.sorted
              rw [hp] at hsorted
              have hlt' : c < i := (List.pairwise_cons.1 hsorted).1 _ hmem
              obtain ⟨hrowc, hndc, -⟩ := hs.pend (c, oc, mc) (by rw [hp]; exact List.mem_cons_self)
              have hndc : tb ds.done c = false := hndc
              rcases (pair_spec (hr.pair _ _ _ _ _ _ hrow hrowc) (by omega)).1 hch hcc with h | h
              · rw [hi.inD c (hanc c h)] at hndc; cases hndc
              · have := hr.low _ _ _ _ hrowc h
                omega
          subst hci
          obtain ⟨hrowc, -, -⟩ := hs.pend (c, oc, mc) (by rw [hp]; exact List.mem_cons_self)
          obtain ⟨rfl, rfl⟩ := same_row hr hrow hrowc
          have hlook : ∀ t, t ∈ looksL ops.toList o → VRel cx (ds.f.get t) (a.tmps.getD t undef) := fun t ht => by
            refine hi.t1 t fun k ok mk h1 h2 h3 => ?_
            by_cases e : k = c
            · subst e; rw [hnd] at h2; cases h2
            · rcases ((pair_spec (hr.pair _ _ _ _ _ _ hrow h1) (fun h => e h.symm)).2 t h3).2 ht with h | h
              · exact hanc k h
              · rw [hs.ci.down _ _ _ _ h1 h2 h] at hnd; cases hnd
          have hwt : ∀ b, wantedA ops.toList ds.f o = some b → Region.wanted o (yielded ops a.tmps) = b := fun b hb => wantedA_ok hb fun j w oj t h1 h2 h3 => hlook t (looks_guard h1 h2 h3)
          split at hcont
          · rename_i hwant
            split at hcont
            · rename_i v A2 hone
              rw [oneOp_eq, ← aop_masked] at hone
              refine wpOp_row ho (hwt _ hwant) ?_ hF
              refine op_wp hE hI hF hi.step.rel hGc (masked_rel (ops := ops) hGc hlook) hone hi.top fun cx' w' v' hst hv => ?_
              obtain ⟨n', ds', h1, h2, h3⟩ := runD_stage hcont
              obtain ⟨k1, k2⟩ := RI.chain_next hr hs hi hp hch hlt hanc hst hv h1 h2 h3
              exact ihf _ _ _ _ _ _ _ hu' k1 k2
            · cases hcont
          · rename_i hwant
            refine wpOp_row ho (hwt _ hwant) ?_ hF
            obtain ⟨n', ds', h1, h2, h3⟩ := runD_stage hcont
            obtain ⟨k1, k2⟩ := RI.chain_next hr hs hi hp hch hlt hanc (.refl hi.step.rel) (undef_rel cx) h1 h2 h3
            exact ihf _ _ _ _ _ _ _ hu' k1 k2
          · cases hcont
        · cases hcont
    | false =>
      have hd : tb ds.done i = true := by
        rcases hs.cover _ hrow with h | h
        · obtain ⟨-, -, h3⟩ := hs.pend _ h
          rcases h3 with h3 | ⟨j, h4, h5⟩
          · have h3 : chainOp o.op = true := h3
            rw [hch] at h3; cases h3
          · have h4 : tb m j = true := h4
            rw [hi.inD j (hanc j h4)] at h5; cases h5
        · exact h
      obtain ⟨r, hrec, rfl⟩ := hs.ci.all i o m hrow hd hch
      have hk := hs.ci.recs r hrec
      obtain ⟨m', hrow', -, -, -⟩ := hk.row
      obtain ⟨rfl, rfl⟩ := same_row hr hrow hrow'
      have hlook := looks_done hr hs hi hrec hnl fun m2 h2 j hj => by
        obtain ⟨-, rfl⟩ := same_row hr hrow h2
        exact hanc j hj
      have hwt : ∀ b, wantedA ops.toList r.f r.o = some b → Region.wanted r.o (yielded ops a.tmps) = b := fun b hb => wantedA_ok hb fun j w oj t h1 h2 h3 => hlook t (looks_guard h1 h2 h3)
      have hck := recheck_spec hs.check r hrec
      have hns : tb s r.i = false := by
        cases hb : tb s r.i with
        | false => rfl
        | true => exact absurd (hi.sure _ hb) hnl
      have hwhat := hk.what
      have hfresh0 : ∀ i' o' fi b x, Rec.new i' o' fi b x ∈ ds.recs → ¬ L listed i' → cx.m b = none ∧ cx.g b = none := fun i' o' fi b x h1 h2 => ⟨(hi.fresh i' o' fi b x h1 h2).1, (hi.fresh i' o' fi b x h1 h2).2.1⟩
      cases r with
      | no i o fi =>
        obtain ⟨h1, h2⟩ := hwhat
        refine wpOp_row ho (hwt _ h1) ?_ hF
        refine ihf _ _ _ _ _ _ _ hu' hs (RI.list hr hs hi hrow hlt hd hanc (.refl _) hi.step hi.top (fun i' o' fi b x h3 h4 _ => hfresh0 i' o' fi b x h3 h4) fun t h3 _ => ?_)
        have := h2 t h3
        rw [this]
        exact undef_rel cx
      | val i o fi v =>
        obtain ⟨h1, h2, h3⟩ := hwhat
        refine wpOp_row ho (hwt _ h1) ?_ hF
        rcases hck with h | ⟨A', hop⟩
        · have hns : tb s i = false := hns
          rw [hns] at h; cases h
        · obtain ⟨v1, e⟩ := val_same hch h2 hop
          cases e
          have hone : finA ih (aop E ds.A (masked o (fi.eval E.ng)) o) = some (v, ds.A) := by rw [aop_masked, hop]; rfl
          refine op_wp hE hI hF hi.step.rel hGc (masked_rel (ops := ops) hGc hlook) hone hi.top fun cx' w' v' hst hv => ?_
          refine ihf _ _ _ _ _ _ _ hu' hs (RI.list hr hs hi hrow hlt hd hanc hst.ext (hi.step.trans hst) (hst.top hi.top) (fun i' o' fi b x h4 h5 _ => ?_) fun t h4 h5 => ?_)
          · have ho' := hst.out b (by omega)
            have := hfresh0 i' o' fi b x h4 h5
            exact ⟨ho'.1.trans this.1, ho'.2.trans this.2⟩
          · rw [h3 t h4 h5]; exact hv
      | new i o fi b x =>
        obtain ⟨h1, h2, A1, v, A2, h3, h4, h5, h6⟩ := hwhat
        refine wpOp_row ho (hwt _ h1) ?_ hF
        rcases hck with h | hget
        · have hns : tb s i = false := hns
          rw [hns] at h; cases h
        · rw [← aop_masked] at h4
          obtain ⟨⟨vf, y, A', o', e, hnew, hrun, hrel⟩⟩ := alloc_law (cx := cx) (ρ' := a.eval) hE (masked_rel (ops := ops) hGc hlook) h2 h4
          cases e
          have hy : y = x := by
            have h7 := (AW.new_some hnew).2.2.2.1
            rw [h3, h5] at h7; exact (Option.some.inj h7).symm
          subst hy
          obtain ⟨hm0, hg0, hb0⟩ := hi.fresh i o fi b y hrec hnl
          have hblt : b < ds.A.n := hs.newLt i o fi b y hrec
          have hext : Ext cx (cx.add b w.heap.size none) := Cx.add_ext hm0
          obtain ⟨hbr, hvr⟩ := hrel (cx.add b w.heap.size none) b w.heap.size hext (by simp) (by simp)
          have hst := hi.step.fill hm0 hb0 hblt hget hbr
          have hnd' : ∀ c, o.op ≠ .defer c := fun c e => by rw [e] at h2; cases h2
          refine ⟨fun f _ => hF.fn f, ?_⟩
          show o.uponIn F 0 P a _ Q ((o.semAt F.round a.eval).run P w)
          rw [Oper.semAt_eq _ _ _ hnd', hrun w]
          refine ihf _ _ _ _ _ _ _ hu' hs (RI.list hr hs hi hrow hlt hd hanc hext hst (fun c hc => ?_) (fun i' o' fi' b' x' h7 h8 h9 => ?_) fun t h7 h8 => ?_)
          · have : c ≠ b := by omega
            rw [Cx.add_m_ne _ this, Cx.add_g_ne _ this]
            exact hi.top c hc
          · have hbb : b' ≠ b := fun e => by
              subst e
              exact h9 (hs.newDist i' o' fi' x' i o fi y b' h7 hrec)
            rw [Cx.add_m_ne _ hbb, Cx.add_g_ne _ hbb]
            exact hfresh0 i' o' fi' b' x' h7 h8
          · rw [h6 t h7 h8, h3]; exact hvr

include hE hI hF in
/-- A region, as it stands in the abstract run, in whatever order. -/
theorem region_ok {id : Nat} {ops : Array Oper} {draw : Bool} {f fe : Fr} {A Ae : AW} {cx : Cx} {a : Act} {w : World} (h : runRegion E ih ops draw f A = some (fe, Ae)) (hR : Rel cx A w) (hG : Glob E cx) (hf : FRel cx f a) (hT : Top cx A.n)
    (hQ : ∀ cx' a' w', Step cx A w cx' Ae w' → FRel cx' fe a' → Q .normal a' w') : (Code.region id ops draw).wpIn F 0 P Q a w := by
  unfold runRegion at h
  cases draw with
  | false =>
    refine wpIn_region ?_
    have := runOps_ok (Q := Q) hE hI hF ops.toList [] cx f A a w fe Ae rfl h hR hG hf hT hQ
    rw [List.range_eq_range']
    simpa using this
  | true =>
    simp only at h
    split at h
    · rename_i rows hrows
      have hr := regRows_facts hrows
      obtain ⟨n', ds, h1, h2, h3⟩ := runD_stage h
      have hci : CI E ops rows f 0 f [] := ⟨fun _ _ => rfl, fun r hr' => by simp at hr', fun i o m _ hb => (by rw [tb_zero] at hb; cases hb), fun i o m j _ hb => (by rw [tb_zero] at hb; cases hb), fun i hb => (by rw [tb_zero] at hb; cases hb), rfl, rfl, rfl, hf.d⟩
      have k := passD_ok hr rows 0 f A [] ds hr.sorted (fun x hx => ⟨hx, tb_zero _⟩) hci h1
      have hd := k.dist (fun i o fi b x hm => by simp at hm) (fun i o fi x i' o' fi' x' b hm => by simp at hm)
      have hst0 : Step cx A w cx A { w with drawn := w.drawn + 1 } := Step.drawn hR _
      have hrowlt : ∀ i, tb ds.done i = true → i < ops.size := fun i hi => by
        obtain ⟨o, m, hm⟩ := k.ci.valid i hi
        exact (Array.getElem?_eq_some_iff.1 (hr.get i o m hm)).1
      have hnl : ∀ i, ¬ L (Array.replicate ops.size false) i := fun i hl => by
        unfold L at hl
        by_cases hi : i < ops.size
        · simp [hi] at hl
        · simp [hi] at hl
      refine wpIn_region_any hE.mixed (region_any hE hI hF hr hG hQ ops.size n' 0 ds _ a _ cx ?_ ⟨k.ci, fun x hx => ⟨(k.pend x hx).1, (k.pend x hx).2⟩, k.sorted, k.cover, h2, h3, hd.1, hd.2⟩
        ⟨by simp, fun i hl => absurd hl (hnl i), fun i o m hm hb hc => ?_, fun j hb => (by rw [tb_zero] at hb; cases hb), fun i o m j _ hl => absurd hl (hnl i), hst0.grow k.grow hT, fun b hb => hT b (by have := k.grow.le; omega), fun i o fi b x hm _ => ?_, hf.t.1, fun t ht => ?_, fun k' o m t hk hd' _ he => ?_, hf.dfr⟩)
      · unfold unl
        refine Nat.le_trans (List.length_filter_le _ _) (by simp)
      · rcases k.from_ i hb with h4 | ⟨o', m', h4, h5⟩
        · rw [tb_zero] at h4; cases h4
        · obtain ⟨rfl, rfl⟩ := same_row hr hm h4
          rw [hc] at h5; cases h5
      · rcases k.recs _ hm with h4 | h4
        · simp at h4
        · have := (h4 i o fi b x rfl).1
          exact ⟨(hT b this).1, (hT b this).2, this⟩
      · have hsame : ds.f.get t = f.get t := k.same t fun k' o m h4 h5 _ h6 => absurd (ht k' o m h4 h5 h6) (hnl k')
        rw [hsame]
        exact hf.t.2 t
      · exact hf.t.2 t
    · cases h
end
end Ax

/-
The abstract run, part 26: scopes, loops; a function's results; a round.
-/
namespace Ax
open Go

/-! ### Scopes -/
section
variable {F : Fence} {n : Nat} {P : Program} {Q : Exit → Act → World → Prop} {a : Act} {w : World}

theorem stepR_scope {b : Frame} {k : List Item} {cs : List Frame} {c : Code} : step P (lone (b.atR a (.code (.scope c) :: k)) cs w) = .next (lone (b.atR a (.code c :: .inScope c :: k)) cs w) :=
  step_lone_go (by simp [stepG, stepG.exec, Frame.atR])
theorem stepR_inScope {b : Frame} {k : List Item} {cs : List Frame} {c : Code} : step P (lone (b.atR a (.inScope c :: k)) cs w) = .next (lone (b.atR a k) cs w) :=
  step_lone_go (by simp [stepG, stepG.exec, Frame.atR])

theorem wpIn_scope {b : Code} (h : inScopeIn F n P b b Q a w) : (Code.scope b).wpIn F n P Q a w := by
  intro fr k cs hro hb hr
  obtain ⟨e, a', w', hq, harr⟩ := h fr k cs hro hb hr
  exact ⟨e, a', w', hq, .of_steps (.one (fenced_calm hb hr rfl) stepR_scope) harr⟩

/-- what is asked of code within a scope -/
def scopePost (F : Fence) (n : Nat) (P : Program) (b : Code) (Q : Exit → Act → World → Prop) : Exit → Act → World → Prop
  | .goto l, a, w => match findLabel b l with
    | some rest => inScopeIn F n P b rest Q a w
    | none => Q (.goto l) a w
  | e, a, w => Q e a w
theorem inScope_of {b c : Code} (h : c.wpIn F n P (scopePost F n P b Q) a w) : inScopeIn F n P b c Q a w := by
  intro fr k cs hro hb hr
  obtain ⟨e, a₁, w₁, hq, harr⟩ := h fr (.inScope b :: k) cs hro hb hr
  cases e with
  | normal => exact ⟨.normal, a₁, w₁, hq, StepsIn.trans harr (.one (fenced_calm hb hr rfl) stepR_inScope)⟩
  | exit id =>
    have hx : exitTo id (.inScope b :: k) = exitTo id k := by simp [exitTo]
    exact ⟨_, a₁, w₁, hq, fun k' hk => harr.1 k' (by rw [hx]; exact hk), fun hr' hk => harr.2 hr' (by rw [hx]; exact hk)⟩
  | goto l =>
    unfold scopePost at hq
    simp only at hq
    split at hq
    · rename_i rest hf
      have hx : gotoIn l (.inScope b :: k) = some (.code rest :: .inScope b :: k) := by simp [gotoIn, hf]
      obtain ⟨e₂, a₂, w₂, hq₂, harr₂⟩ := hq fr k cs hro hb hr
      exact ⟨e₂, a₂, w₂, hq₂, .of_steps (harr.1 _ hx) harr₂⟩
    · rename_i hf
      have hx : gotoIn l (.inScope b :: k) = gotoIn l k := by simp [gotoIn, hf]
      exact ⟨_, a₁, w₁, hq, fun k' hk => harr.1 k' (by rw [hx]; exact hk), fun hr' hk => harr.2 hr' (by rw [hx]; exact hk)⟩
  | ret => exact ⟨_, a₁, w₁, hq, harr⟩
  | panic ch => exact ⟨_, a₁, w₁, hq, harr⟩
  | outgrown => exact ⟨_, a₁, w₁, hq, harr⟩

/-! ### Loops -/
theorem wpIn_of_loop {c : Code} (h : inLoopIn F n P c Q a w) : (Code.loop c).wpIn F n P Q a w := by
  intro fr k cs hro hb hr
  obtain ⟨e, a', w', hq, harr⟩ := h fr k cs hro hb hr
  exact ⟨e, a', w', hq, .of_steps (.one (fenced_calm hb hr rfl) stepR_loop) harr⟩
theorem inLoop_of {c : Code} (h : c.wpIn F n P (Exit.then (inLoopIn F n P c Q) Q) a w) : inLoopIn F n P c Q a w := by
  intro fr k cs hro hb hr
  obtain ⟨e, a₁, w₁, hq, harr⟩ := h fr (.inLoop c :: k) cs hro hb hr
  cases e with
  | normal =>
    obtain ⟨e₂, a₂, w₂, hq₂, harr₂⟩ := hq fr k cs hro hb hr
    exact ⟨e₂, a₂, w₂, hq₂, .of_steps (StepsIn.trans harr (.one (fenced_calm hb hr rfl) stepR_inLoop)) harr₂⟩
  | exit id => exact ⟨_, a₁, w₁, hq, .pass (x := .inLoop c) rfl (fun _ _ => .inl (by simp)) harr⟩
  | goto l => exact ⟨_, a₁, w₁, hq, .pass (x := .inLoop c) rfl (fun _ _ => .inl (by simp)) harr⟩
  | ret => exact ⟨_, a₁, w₁, hq, .pass (x := .inLoop c) rfl (fun _ _ => .inl (by simp)) harr⟩
  | panic ch => exact ⟨_, a₁, w₁, hq, .pass (x := .inLoop c) rfl (fun _ _ => .inl (by simp)) harr⟩
  | outgrown => exact ⟨_, a₁, w₁, hq, .pass (x := .inLoop c) rfl (fun _ _ => .inl (by simp)) harr⟩
theorem codeIn.wp {c : Code} (h : codeIn F n P c Q a w) : c.wpIn F n P Q a w := by
  cases c <;> first | exact wpIn_of_loop h | exact h
end

/-! ### Frames that are entered -/
theorem setArgs_get (d : Nat) : ∀ (vs : List V) (k : Nat) (t : Tr V) (i : Nat), k + vs.length ≤ 16 ^ d → i < 16 ^ d → Tr.get d (Fr.setArgs d k vs t) i = if k ≤ i ∧ i < k + vs.length then vs[i - k]? else Tr.get d t i := by
  intro vs
  induction vs with
  | nil => intro k t i h1 h2; rw [if_neg (fun h => by simp at h; omega)]; rfl
  | cons v vs ih =>
    intro k t i h1 h2
    rw [Fr.setArgs, ih (k + 1) _ i (by simp at h1; omega) h2]
    by_cases h3 : k + 1 ≤ i ∧ i < k + 1 + vs.length
    · rw [if_pos h3, if_pos ⟨by omega, by simp; omega⟩]
      obtain ⟨j, rfl⟩ : ∃ j, i = k + 1 + j := ⟨i - (k + 1), by omega⟩
      rw [show k + 1 + j - (k + 1) = j from by omega, show k + 1 + j - k = j + 1 from by omega]
      simp
    · rw [if_neg h3]
      by_cases h4 : i = k
      · subst h4
        rw [Tr.get_set_same, if_pos ⟨Nat.le_refl _, by simp⟩]
        simp
      · rw [Tr.get_set_ne d t k i v (by simp at h1; omega) h2 (fun e => h4 e.symm), if_neg (by simp; omega)]
theorem fdepth_le {n : Nat} (h : n ≤ 1024) : n ≤ 16 ^ fdepth n := by
  unfold fdepth
  simp only [ble_eq]
  by_cases h1 : n ≤ 16
  · rw [decide_eq_true h1]; show n ≤ 16 ^ 1; omega
  · rw [decide_eq_false h1]
    by_cases h2 : n ≤ 256
    · rw [decide_eq_true h2]; show n ≤ 16 ^ 2; omega
    · rw [decide_eq_false h2]; show n ≤ 16 ^ 3; omega
theorem Fr.get_lt {d n : Nat} {t : Tr V} {ds : List Nat} {i : Nat} (h : i < n) : Fr.get ⟨d, t, n, ds⟩ i = (Tr.get d t i).getD undef := by
  simp only [Fr.get, blt_true h]
  cases Tr.get d t i <;> rfl
theorem enter_rel {cx : Cx} {args : List V} {args' : Array V} {n : Nat} (ha : LRel cx args args'.toList) (hl : args.length ≤ n) (hn : n ≤ 1024) :
    FRel cx ⟨fdepth n, Fr.setArgs (fdepth n) 0 args .nil, n, []⟩ { tmps := args' ++ Array.replicate (n - args'.size) undef, defers := [] } := by
  have hsz : args'.size = args.length := by have := ha.1; simp at this; omega
  have hd := fdepth_le hn
  refine ⟨hd, ⟨by simp; omega, fun t => ?_⟩, ⟨rfl, fun i b d hb => by simp at hb⟩⟩
  by_cases ht : t < n
  · rw [Fr.get_lt ht, setArgs_get _ _ _ _ _ (by omega) (by omega), Array.getD_eq_getD_getElem?]
    by_cases h1 : t < args.length
    · rw [if_pos ⟨Nat.zero_le _, by omega⟩, Nat.sub_zero, Array.getElem?_append_left (by omega)]
      have hx : args[t]? = some args[t] := by simp [h1]
      have hy : args'[t]? = some args'[t] := by simp [show t < args'.size from by omega]
      rw [hx, hy]
      exact ha.2 t _ _ hx (by simp [show t < args'.size from by omega])
    · rw [if_neg (by omega), Tr.get_nil, Array.getElem?_append_right (by omega)]
      have : (Array.replicate (n - args'.size) undef)[t - args'.size]? = some undef := by
        rw [Array.getElem?_replicate, if_pos (by omega)]
      rw [this]
      exact undef_rel cx
  · rw [Fr.get_ge (f := ⟨fdepth n, Fr.setArgs (fdepth n) 0 args .nil, n, []⟩) ht, Array.getD_eq_getD_getElem?, Array.getElem?_eq_none (by simp; omega)]
    exact undef_rel cx

/-! ### Results -/
section
variable {P : Program} {E : Env} (hE : EnvOk P E) {cx : Cx} {A : AW} {w : World} (hR : Rel cx A w)
def resultV (tmps : Array V) (r : ResultVar) : Sem V := match r with
  | .tmp t => pure (tmps.getD t undef)
  | .cell x t => do loadVar t (← asAddr (tmps.getD x undef))
include hE hR in
theorem resultsA_rel {f : Fr} {a : Act} (hf : FRel cx f a) : ∀ {rs : List ResultVar} {vs : List V}, resultsA E f A rs = some vs →
    ∃ vs', (rs.mapM (resultV a.tmps)).run P w = .ok vs' w ∧ LRel cx vs vs' := by
  intro rs
  induction rs with
  | nil =>
    intro vs h
    simp only [resultsA, Option.some.injEq] at h
    subst h
    exact ⟨[], rfl, LRel.nil cx⟩
  | cons r rs ih =>
    intro vs h
    unfold resultsA at h
    split at h
    · cases ‹r :: rs = []›
    · rename_i t r' e
      cases e
      split at h
      · rename_i l hl
        simp only [Option.some.injEq] at h
        subst h
        obtain ⟨l', h1, h2⟩ := ih hl
        exact ⟨a.tmps.getD t undef :: l', by simp [List.mapM_cons, resultV, h1], LRel.cons (hf.t.2 t) h2⟩
      · cases h
    · rename_i x t r' e
      cases e
      split at h
      · rename_i p hp
        split at h
        · rename_i v l hv hl
          simp only [Option.some.injEq] at h
          subst h
          obtain ⟨l', h1, h2⟩ := ih hl
          have hx := hf.t.2 x
          rw [hp] at hx
          generalize hxv : a.tmps.getD x undef = xv at hx
          cases xv with
          | pointer a' =>
            obtain ⟨q, v', h3, h4, h5⟩ := loadVar_rel (P := P) hE hR hx hv
            subst h3
            exact ⟨v' :: l', by simp [List.mapM_cons, resultV, h1, hxv, asAddr, h4], LRel.cons h5 h2⟩
          | _ => cases hx
        · cases h
      · cases h
include hE hR in
theorem results_ok {fn : Func} {f : Fr} {a : Act} (hf : FRel cx f a) {vs : List V} (h : resultsA E f A fn.results.toList = some vs) : ∃ v', (results fn a.tmps).run P w = .ok v' w ∧ VRel cx (asRet vs) v' := by
  obtain ⟨vs', h1, h2⟩ := resultsA_rel hE hR hf h
  have hres : results fn a.tmps = (do
      let vs ← fn.results.mapM (resultV a.tmps)
      pure (if h : vs.size = 1 then vs[0] else .tuple vs)) := rfl
  have h3 : (fn.results.mapM (resultV a.tmps)).run P w = .ok vs'.toArray w := by
    rw [Array.mapM_eq_mapM_toList]
    simp [h1]
  refine ⟨if h : vs'.toArray.size = 1 then vs'.toArray[0] else .tuple vs'.toArray, by rw [hres]; simp only [Sem.run_bind, h3, Result.andThen_ok, Sem.run_pure], ?_⟩
  unfold asRet
  split
  · rename_i v
    match vs', h2 with
    | [v'], h2 => exact h2.2 0 v v' rfl rfl
    | [], h2 => exact absurd h2.1 (by simp)
    | _ :: _ :: _, h2 => exact absurd h2.1 (by simp)
  · rename_i hne
    rw [dif_neg]
    · exact tupleRel h2
    · intro h
      have : vs.length = 1 := by rw [h2.1]; simpa using h
      match vs, this with
      | [v], _ => exact hne v rfl
end
end Ax

/-
The abstract run, part 27: statements, calls, rounds.
-/
namespace Ax
open Go

/-- calls that are proved elsewhere -/
def ExtOk (P : Program) (E : Env) : Prop := ∀ g args A v A', E.ext g args A = some (v, A') → CallOk P E g args A v A'

section
variable {P : Program} {E : Env} (hE : EnvOk P E) {ih : Task → Option Res} (hI : IhOk P E ih)

theorem codeIn_mono {F : Fence} {n : Nat} {c : Code} {Q Q' : Exit → Act → World → Prop} {a : Act} {w : World} (h : codeIn F n P c Q a w) (hq : ∀ e a w, Q e a w → Q' e a w) : codeIn F n P c Q' a w := by
  cases c
  case loop c =>
    intro fr k cs hro hb hr
    obtain ⟨e, a', w', q, r⟩ := h fr k cs hro hb hr
    exact ⟨e, a', w', hq _ _ _ q, r⟩
  all_goals exact wpIn_mono h hq

include hI in
theorem ih_code {ro : Option Nat} {c : Code} {f : Fr} {A : AW} {r : Res} (h : ih (.code ro c f A) = some r) : ∃ e f' A', r = .ex e f' A' ∧ CodeOk P E ro c f A e f' A' := by
  have := hI _ _ h
  cases r with
  | ex e f' A' => exact ⟨e, f', A', rfl, this⟩
  | ret v A' => exact this.elim

/-- the end of a statement, by way of which the next goes on -/
def EndQ (cx : Cx) (A : AW) (w : World) (e : Ex) (f' : Fr) (A' : AW) : Exit → Act → World → Prop := fun e' a' w' => e' = exOf e ∧ ∃ cx', Step cx A w cx' A' w' ∧ FRel cx' f' a'

include hI in
/-- one statement, then what comes behind it -/
theorem code_then {F : Fence} {ro : Option Nat} {c : Code} {f f1 : Fr} {A A1 : AW} {e : Ex} {cx : Cx} {a : Act} {w : World} (h : ih (.code ro c f A) = some (.ex e f1 A1)) (hR : Rel cx A w) (hG : Glob E cx) (hf : FRel cx f a) (hro : ROk cx F ro) (hT : Top cx A.n)
    {Q : Exit → Act → World → Prop} (hQ : ∀ cx1 a1 w1, Step cx A w cx1 A1 w1 → FRel cx1 f1 a1 → Rel cx1 A1 w1 → Glob E cx1 → ROk cx1 F ro → Top cx1 A1.n → Q (exOf e) a1 w1) : codeIn F 0 P c Q a w := by
  obtain ⟨e', f', A', he, hc⟩ := ih_code hI h
  cases he
  refine codeIn_mono (hc cx w a F hR hG hf hro hT) fun e' a1 w1 ⟨h1, cx1, h2, h3⟩ => ?_
  subst h1
  exact hQ cx1 a1 w1 h2 h3 h2.rel (hG.ext h2.ext) (hro.ext h2.ext) (h2.top hT)

include hI in
/-- code that runs next -/
theorem code_next {F : Fence} {ro : Option Nat} {c : Code} {f : Fr} {A A0 : AW} {r : Res} {cx cx0 : Cx} {a : Act} {w w0 : World} (h : ih (.code ro c f A) = some r) (hst : Step cx0 A0 w0 cx A w) (hR : Rel cx A w) (hG : Glob E cx) (hf : FRel cx f a) (hro : ROk cx F ro) (hT : Top cx A.n) :
    ∃ e f' A', r = .ex e f' A' ∧ codeIn F 0 P c (EndQ cx0 A0 w0 e f' A') a w := by
  obtain ⟨e, f', A', rfl, hc⟩ := ih_code hI h
  refine ⟨e, f', A', rfl, codeIn_mono (hc cx w a F hR hG hf hro hT) fun e' a1 w1 ⟨h1, cx1, h2, h3⟩ => ⟨h1, cx1, hst.trans h2, h3⟩⟩

/-! ### Blocks of a loop's record -/
theorem loop_of {cx : Cx} {A : AW} {w : World} (hR : Rel cx A w) {l r : Nat} {lr : LoopR} (hg : A.get l = some (.loop lr)) (hm : cx.m l = some r) :
    ∃ fn tmps df, w.heap[r]? = some (.loop { state := lr.state, pending := lr.pending, fn := fn, tmps := tmps, params := lr.params, assign := lr.assign, body := lr.body, defers := df }) ∧
      lr.ntmps = tmps.size ∧ lr.ntmps ≤ 1024 ∧ ∀ t, t < lr.ntmps → VRel cx ((Tr.get (fdepth lr.ntmps) lr.tmps t).getD undef) (tmps.getD t undef) := by
  obtain ⟨o, h1, fn, tmps, df, h2, h3, h4, h5⟩ := hR.blk _ _ _ hg hm
  subst h2
  exact ⟨fn, tmps, df, h1, h3, h4, h5⟩
theorem putObj_step {cx : Cx} {A : AW} {w : World} (hR : Rel cx A w) {b r : Nat} {x y : Blk} {o : Obj} (hg : A.get b = some x) (hx : x ≠ .dead) (hm : cx.m b = some r) (hy : BRel cx b y o) : Step cx A w cx (A.put b y) (w.putObj r o) := by
  have hlt := hR.rng b r hm
  exact Step.put_block hR hg hx hm hy hlt (setObj_heap o hlt) (by simp [World.putObj]) rfl rfl rfl

/-! ### A call's end -/
theorem close_ok {F : Fence} {fn : Func} {tmps : Array V} {R : Ending → World → Prop} : ∀ {ds : List Nat} {ds' : List Deferred} {cx : Cx} {A A' : AW} {w : World}, DRel cx ds ds' → closeDefers ds A = some A' → Rel cx A w →
    (∀ w', Step cx A w cx A' w' → LeavesIn F 0 P fn tmps R [] .returning w') → LeavesInM F 0 P fn tmps R ds' .returning w := by
  intro ds
  induction ds with
  | nil =>
    intro ds' cx A A' w hd h hR hk
    have : ds' = [] := by
      cases ds' with
      | nil => rfl
      | cons _ _ => have := hd.1; simp at this
    subst this
    simp only [closeDefers, Option.some.injEq] at h
    subst h
    exact hk w (.refl hR)
  | cons b ds ih =>
    intro ds' cx A A' w hd h hR hk
    cases ds' with
    | nil => have := hd.1; simp at this
    | cons d ds' =>
      obtain ⟨r, hm, rfl⟩ := hd.2 0 b d rfl rfl
      unfold closeDefers at h
      split at h
      · rename_i hg
        obtain ⟨o, ho, hb⟩ := hR.blk _ _ _ hg hm
        have hb : o = .deferred (some []) := hb
        subst hb
        have hst := putObj_step hR (y := .dfr false) (o := .deferred none) hg (by simp) hm rfl
        refine ⟨by simp, .inl ⟨r, w.putObj r (.deferred none), rfl, run_takeDeferred ho, ?_⟩⟩
        refine ih ⟨by simpa using hd.1, fun i b' d' hb' hd' => hd.2 (i + 1) b' d' (by simpa using hb') (by simpa using hd')⟩ h hst.rel fun w' hst' => hk w' (hst.trans hst')
      · cases h

include hE hI in
theorem call_body {g : Nat} {args : List V} {A : AW} {fn : Func} {c : Code} {r : Res} (hf : E.fn g = some fn) (hb : fn.body = some c) (hl : args.length ≤ fn.ntmps) (hn : fn.ntmps ≤ 1024)
    (h : endCall E fn.results (ih (.code none c ⟨fdepth fn.ntmps, Fr.setArgs (fdepth fn.ntmps) 0 args .nil, fn.ntmps, []⟩ A)) = some r) : ∃ v A', r = .ret v A' ∧ CallOk P E g args A v A' := by
  rw [hE.fn] at hf
  unfold endCall at h
  split at h
  · rename_i e f A1 hih
    have fin : ∀ (he : exOf e = .normal ∨ exOf e = .ret), (match closeDefers f.defers A1 with
        | some A' => match resultsA E f A' fn.results.toList with
          | some vs => some (Res.ret (asRet vs) A')
          | none => none
        | none => none) = some r → ∃ v A', r = .ret v A' ∧ CallOk P E g args A v A' := fun he h => by
      split at h
      · rename_i A2 hcl
        split at h
        · rename_i vs hrs
          simp only [Option.some.injEq] at h
          subst h
          refine ⟨_, _, rfl, fun cx w args' hR hG ha hT => ?_⟩
          refine callsIn_of_wp_marks hf hb trivial (codeIn.wp (code_then hI hih hR hG (enter_rel ha hl hn) rfl hT fun cx1 a1 w1 hst hf1 hR1 hG1 _ hT1 => ?_)) rfl
          have key : LeavesInM Fence.wide 0 P fn a1.tmps (fun e w' => ∃ v', e = .returned v' ∧ ∃ cx', Step cx A w cx' A2 w' ∧ VRel cx' (asRet vs) v') a1.defers .returning w1 := by
            refine close_ok hf1.dfr hcl hR1 fun w2 hst2 => ?_
            obtain ⟨v', h1, h2⟩ := results_ok hE hst2.rel hf1 hrs
            exact ⟨v', h1, v', rfl, cx1, hst.trans hst2, h2⟩
          rcases he with he | he <;> rw [he] <;> exact key
        · cases h
      · cases h
    cases e with
    | normal => exact fin (.inl rfl) h
    | ret => exact fin (.inr rfl) h
    | exit id => cases h
    | goto l => cases h
  · cases h

include hE hI in
theorem callA_ok (hX : ExtOk P E) {g : Nat} {args : List V} {A : AW} {r : Res} (h : callA E ih g args A = some r) : ∃ v A', r = .ret v A' ∧ CallOk P E g args A v A' := by
  unfold callA at h
  split at h
  · rename_i v A' hx
    simp only [Option.some.injEq] at h
    subst h
    exact ⟨v, A', rfl, hX _ _ _ _ _ hx⟩
  · split at h
    · rename_i fn hf
      split at h
      · rename_i c hb
        split at h
        · rename_i hc
          simp only [Bool.and_eq_true] at hc
          exact call_body hE hI hf hb (Nat.le_of_ble_eq_true hc.1) (Nat.le_of_ble_eq_true hc.2) h
        · cases h
      · cases h
    · cases h
end
end Ax

/-
The abstract run, part 28: a range over a function; every task.
-/
namespace Ax
open Go

section
variable {P : Program} {E : Env} (hE : EnvOk P E) {ih : Task → Option Res} (hI : IhOk P E ih)

/-! ### Rounds -/
theorem setParams_rel {cx : Cx} (d nt : Nat) : ∀ (ps : List Nat) (vs : List V) (vs' : List V) (t t' : Tr V) (ts : Array V), nt ≤ 16 ^ d → nt = ts.size → LRel cx vs vs' → (∀ i, i < nt → VRel cx ((Tr.get d t i).getD undef) (ts.getD i undef)) → setParams d ps vs nt t = some t' →
    ps.length = vs'.length ∧ ((ps.zip vs').foldl (fun tmps (t, a) => tmps.setIfInBounds t a) ts).size = nt ∧ ∀ i, i < nt → VRel cx ((Tr.get d t' i).getD undef) (((ps.zip vs').foldl (fun tmps (t, a) => tmps.setIfInBounds t a) ts).getD i undef) := by
  intro ps
  induction ps with
  | nil =>
    intro vs vs' t t' ts hd hn hv ht h
    cases vs with
    | nil =>
      simp only [setParams, Option.some.injEq] at h
      subst h
      have : vs' = [] := hv.nil_inv
      subst this
      exact ⟨rfl, hn.symm, ht⟩
    | cons v vs => simp [setParams] at h
  | cons p ps ih =>
    intro vs vs' t t' ts hd hn hv ht h
    cases vs with
    | nil => simp [setParams] at h
    | cons v vs =>
      obtain ⟨v', r, rfl, hv1, hvr⟩ := hv.uncons
      unfold setParams at h
      split at h
      · rename_i hlt
        have hlt : p < nt := by simpa using hlt
        have hnew : ∀ i, i < nt → VRel cx ((Tr.get d (Tr.set d t p v) i).getD undef) ((ts.setIfInBounds p v').getD i undef) := fun i hi => by
          by_cases e : p = i
          · subst e
            rw [Tr.get_set_same, Array.getD_eq_getD_getElem?]
            simpa [← hn, hlt] using hv1
          · rw [Tr.get_set_ne d t p i v (by omega) (by omega) e, Array.getD_eq_getD_getElem?, Array.getElem?_setIfInBounds_ne e, ← Array.getD_eq_getD_getElem?]
            exact ht i hi
        obtain ⟨h1, h2, h3⟩ := ih vs r (Tr.set d t p v) t' (ts.setIfInBounds p v') hd (by simp [hn]) hvr hnew h
        exact ⟨by simp [h1], h2, h3⟩
      · cases h

include hI in
theorem roundA_ok {l : Nat} {args : List V} {A : AW} {r : Res} (h : roundA ih l args A = some r) : ∃ v A', r = .ret v A' ∧ RoundOk P E l args A v A' := by
  unfold roundA at h
  split at h
  · rename_i st0 pd0 t nt ps as bd0 hg
    split at h
    · rename_i t' hsp
      split at h
      · rename_i f1 A1 hih1
        split at h
        · rename_i pd t1 nt1 ps1 as1 bd1 hg1
          split at h
          · rename_i e f2 A2 hih2
            -- the end
            unfold endRoundA at h
            split at h
            · rename_i st2 pd2 t2 nt2 ps2 as2 bd2 hg2
              obtain ⟨b, jump, A', hr, hjump, hA', hpost⟩ : ∃ (b : Bool) (jump : Option Code) (A' : AW), r = .ret (.bool b) A' ∧ b = jump.isNone ∧ A' = A2.put l (.loop ⟨if jump.isNone then .ready else .done, jump, t2, nt2, ps2, as2, bd2⟩) ∧
                  ∀ (rr : Nat) (R : Ending → World → Prop) (a : Act) (w : World), (∃ v w', (Instr.endRound rr jump).run P w = .ok v w' ∧ R (.returned v) w') → roundPost P rr R (exOf e) a w := by
                cases e with
                | normal => cases h; exact ⟨true, none, _, rfl, rfl, rfl, fun rr R a w h => h⟩
                | ret => cases h; exact ⟨false, some .ret, _, rfl, rfl, rfl, fun rr R a w h => h⟩
                | exit id => cases h; exact ⟨false, some (.exit id), _, rfl, rfl, rfl, fun rr R a w h => h⟩
                | goto g => cases h; exact ⟨false, some (.goto g), _, rfl, rfl, rfl, fun rr R a w h => h⟩
              subst hr
              refine ⟨_, _, rfl, fun cx w rr args' hm hR hG ha hT => ?_⟩
              obtain ⟨fn, tmps, df, h1, h2, h3, h4⟩ := loop_of hR hg hm
              simp only at h1 h2 h3 h4
              obtain ⟨k1, k2, k3⟩ := setParams_rel (fdepth nt) nt ps.toList args args'.toList t t' tmps (fdepth_le h3) h2 ha h4 hsp
              have hsz : args'.size = ps.size := by simpa using k1.symm
              have hzip : (ps.zip args').foldl (fun tmps (t, a) => tmps.setIfInBounds t a) tmps = (ps.toList.zip args'.toList).foldl (fun tmps (t, a) => tmps.setIfInBounds t a) tmps := by
                rw [← Array.foldl_toList, Array.toList_zip]
              refine ⟨fn, (ps.zip args').foldl (fun tmps (t, a) => tmps.setIfInBounds t a) tmps, as, bd0, run_yield h1 hsz, ?_⟩
              rw [hzip]
              refine roundIn_of_wpIn trivial (codeIn.wp (code_then (F := Fence.wide.inRound rr) hI hih1 hR hG ⟨fdepth_le h3, ⟨k2.symm, fun i => ?_⟩, ⟨rfl, fun i b d hb => by simp at hb⟩⟩ ⟨rr, hm, rfl⟩ hT fun cx1 a1 w1 hst1 hf1 hR1 hG1 hro1 hT1 => ?_))
              · by_cases hi : i < nt
                · rw [Fr.get_lt hi]; exact k3 i hi
                · rw [Fr.get_ge (f := ⟨fdepth nt, t', nt, []⟩) hi, Array.getD_eq_getD_getElem?, Array.getElem?_eq_none (Nat.le_of_not_lt fun h => hi (k2 ▸ h))]
                  exact undef_rel cx
              · have hm1 := hst1.ext.m _ _ hm
                obtain ⟨fn1, tmps1, df1, b1, b2, b3, b4⟩ := loop_of hR1 hg1 hm1
                simp only at b1 b2 b3 b4
                have hst2 := putObj_step hR1 (y := .loop ⟨.busy, pd, t1, nt1, ps1, as1, bd1⟩) (o := .loop { state := .busy, pending := pd, fn := fn1, tmps := tmps1, params := ps1, assign := as1, body := bd1, defers := df1 }) hg1 (by simp) hm1 ⟨fn1, tmps1, df1, rfl, b2, b3, b4⟩
                refine ⟨_, run_beginRound b1 rfl, codeIn.wp (code_then (F := Fence.wide.inRound rr) hI hih2 hst2.rel hG1 hf1 hro1 hT1 fun cx3 a3 w3 hst3 hf3 hR3 hG3 hro3 hT3 => ?_)⟩
                have hm3 := hst3.ext.m _ _ hm1
                obtain ⟨fn3, tmps3, df3, c1, c2, c3, c4⟩ := loop_of hR3 hg2 hm3
                simp only at c1 c2 c3 c4
                refine hpost rr _ a3 w3 ⟨.bool jump.isNone, _, run_endRound jump c1, .bool jump.isNone, rfl, cx3, ?_, by rw [hjump]; exact .bool _⟩
                rw [hA']
                have hst4 := putObj_step hR3 (y := .loop ⟨if jump.isNone then .ready else .done, jump, t2, nt2, ps2, as2, bd2⟩) (o := .loop { state := if jump.isNone then .ready else .done, pending := jump, fn := fn3, tmps := tmps3, params := ps2, assign := as2, body := bd2, defers := df3 }) hg2 (by simp) hm3 ⟨fn3, tmps3, df3, rfl, c2, c3, c4⟩
                exact ((hst1.trans hst2).trans hst3).trans hst4
            · cases h
          · cases h
        · cases h
      · cases h
    · cases h
  · cases h

/-! ### A range over a function -/
include hE hI in
theorem rangeA_ok {ro : Option Nat} {g : Operand} {ps : Array Nat} {as bd : Code} {f : Fr} {A : AW} {r : Res} (h : rangeA E ih ro g ps as bd f A = some r) : ∃ e f' A', r = .ex e f' A' ∧ CodeOk P E ro (.rangeFunc g ps as bd) f A e f' A' := by
  unfold rangeA at h
  split at h
  · rename_i f1 A1 hc hen
    simp only [Bool.and_eq_true] at hc
    have hn1 := Nat.le_of_ble_eq_true hc.1
    have hfd := Nat.eq_of_beq_eq_true hc.2
    split at h
    · rename_i l A2 hnew
      split at h
      · rename_i hh first captured hg
        split at h
        · rename_i fn hfn
          split at h
          · rename_i c hbody
            split at h
            · rename_i v A3 hcall
              have hcok : CallOk P E hh (first.toList ++ [.func (.yield l) #[] #[]] ++ captured.toList) A2 v A3 := hI _ _ hcall
              rw [hE.fn] at hfn
              have hnn : ¬ fn.name = "runtime.NumGoroutine" := by simpa using hE.noNum hh fn hfn
              unfold leaveA at h
              split at h
              · rename_i st pd t nt ps3 as3 bd3 hg3
                have hnb : st ≠ .busy := by
                  rintro rfl
                  cases h
                have h : (match (generalizing := false) pd with
                  | none => some (Res.ex .normal f1 (A3.put l (.loop ⟨.exhausted, pd, t, nt, ps3, as3, bd3⟩)))
                  | some c => ih (.code ro c f1 (A3.put l (.loop ⟨.exhausted, pd, t, nt, ps3, as3, bd3⟩)))) = some r := by
                  cases st <;> first | exact absurd rfl hnb | exact h
                -- the shape of the end
                have hres : ∃ e f' A', r = .ex e f' A' := by
                  split at h
                  · cases h; exact ⟨_, _, _, rfl⟩
                  · obtain ⟨e, f', A', rfl, -⟩ := ih_code (P := P) (E := E) hI h; exact ⟨_, _, _, rfl⟩
                obtain ⟨e, f', A', rfl⟩ := hres
                refine ⟨e, f', A', rfl, fun cx w a F hR hG hf hro hT => ?_⟩
                show (Code.rangeFunc g ps as bd).wpIn F 0 P _ a w
                refine wpIn_rangeFunc fun fnid _ => ?_
                -- the block for the deferred calls
                obtain ⟨mark, dw, w1, cx1, hstA, hent, hdr, hf1⟩ : ∃ (mark : List Deferred) (df : Nat) (w1 : World) (cx1 : Cx), Step cx A w cx1 A1 w1 ∧
                    (Instr.enterLoop fnid a.tmps ps as bd F.round).run P w = .ok (w1.heap.size, mark) (w1.alloc (.loop { state := .ready, pending := none, fn := fnid, tmps := a.tmps, params := ps, assign := as, body := bd, defers := df })) ∧
                    DRel cx1 f1.defers (mark ++ a.defers) ∧ (f1.d = f.d ∧ f1.t = f.t ∧ f1.n = f.n) := by
                  cases ro with
                  | none =>
                    have hro : F = Fence.wide := hro
                    subst hro
                    unfold enterA at hen
                    simp only at hen
                    split at hen
                    · rename_i b0 A1' hn0
                      simp only [Option.some.injEq, Prod.mk.injEq] at hen
                      obtain ⟨rfl, rfl⟩ := hen
                      obtain ⟨rfl, hst⟩ := Step.new_block (g := none) (o := .deferred (some [])) hR hn0 (hT A.n (Nat.le_refl _)).1 rfl (w.alloc (.deferred (some []))) rfl rfl rfl rfl
                      refine ⟨[{ target := .collected w.heap.size, args := #[] }], w.heap.size, w.alloc (.deferred (some [])), _, hst, ?_, ⟨by simp [hf.dfr.1], fun i b d hb hd => ?_⟩, rfl, rfl, rfl⟩
                      · rw [show Fence.wide.round = none from rfl, run_enterLoop_outer, World.size_alloc]
                      · cases i with
                        | zero =>
                          simp at hb hd
                          subst hb; subst hd
                          exact ⟨_, Cx.add_m _ _ _ _, rfl⟩
                        | succ i => exact (hf.dfr.ext hst.ext).2 i b d (by simpa using hb) (by simpa using hd)
                    · cases hen
                  | some l0 =>
                    obtain ⟨r0, hm0, rfl⟩ := hro
                    unfold enterA at hen
                    simp only at hen
                    split at hen
                    · rename_i lr0 hg0
                      simp only [Option.some.injEq, Prod.mk.injEq] at hen
                      obtain ⟨rfl, rfl⟩ := hen
                      obtain ⟨fn0, tmps0, df0, h1, -⟩ := loop_of hR hg0 hm0
                      refine ⟨[], df0, w, cx, .refl hR, ?_, hf.dfr, rfl, rfl, rfl⟩
                      have : (Fence.wide.inRound r0).round = some r0 := rfl
                      rw [this]
                      unfold Instr.enterLoop
                      simp only [Sem.run_bind, run_getLoop h1, Result.andThen_ok, Sem.run_pure, run_newObj_alloc]
                    · cases hen
                have hget : f1.get = f.get := by
                  obtain ⟨d0, t0, n0, ds0⟩ := f
                  obtain ⟨d1, t1, n1, ds1⟩ := f1
                  obtain ⟨q1, q2, q3⟩ := hf1
                  simp only at q1 q2 q3
                  subst q1; subst q2; subst q3
                  rfl
                have hF1 : FRel cx1 f1 { a with defers := mark ++ a.defers } := ⟨by rw [hf1.2.2, hf1.1]; exact hf.d, by rw [hget, hf1.2.2]; exact hf.t.ext hstA.ext, hdr⟩
                -- the record
                have hT1 := hstA.top hT
                obtain ⟨rfl, hstB⟩ := Step.new_block (g := none) (o := .loop { state := .ready, pending := none, fn := fnid, tmps := a.tmps, params := ps, assign := as, body := bd, defers := dw }) hstA.rel hnew (hT1 A1.n (Nat.le_refl _)).1
                  ⟨fnid, a.tmps, dw, rfl, hf.t.1, hn1, fun i hi => by
                    have h2 := (hf.t.ext (hstA.ext.trans (Cx.add_ext (g := none) (r := w1.heap.size) (hT1 A1.n (Nat.le_refl _)).1))).2 i
                    obtain ⟨d0, t0, n0, ds0⟩ := f
                    have hfd : d0 = fdepth n0 := hfd
                    have hi : i < n0 := hi
                    rw [Fr.get_lt hi, hfd] at h2
                    exact h2⟩ (w1.alloc (.loop { state := .ready, pending := none, fn := fnid, tmps := a.tmps, params := ps, assign := as, body := bd, defers := dw })) rfl rfl rfl rfl
                have hst2 := hstA.trans hstB
                have hGg := hf.eval hG g
                rw [eval_eq, hget, ← eval_eq] at hg
                rw [hg] at hGg
                generalize hgv : a.eval g = gv at hGg
                cases hGg with
                | func _ fn' _ _ a' c' hfn' ha hcs h1 h2 =>
                  cases hfn'
                  have hargs : LRel (cx1.add A1.n w1.heap.size none) (first.toList ++ [.func (.yield A1.n) #[] #[]] ++ captured.toList) ((a' ++ (#[.func (.yield w1.heap.size) #[] #[]] : Array V)) ++ c').toList := by
                    have hy : LRel (cx1.add A1.n w1.heap.size none) [.func (.yield A1.n) #[] #[]] [.func (.yield w1.heap.size) #[] #[]] :=
                      LRel.cons (.func _ _ _ _ _ _ (.yield _ _ (Cx.add_m _ _ _ _)) rfl rfl (fun i x y hx => by simp at hx) (fun i x y hx => by simp at hx)) (LRel.nil _)
                    have := (((LRel.ofArr ha h1).ext hst2.ext).append hy).append ((LRel.ofArr hcs h2).ext hst2.ext)
                    simpa using this
                  have hres : (resolve a.eval (rangeCall g w1.heap.size) 0).run P (w1.alloc (.loop { state := .ready, pending := none, fn := fnid, tmps := a.tmps, params := ps, assign := as, body := bd, defers := dw })) =
                      .ok { target := .fn (.func hh) c', args := a' ++ #[.func (.yield w1.heap.size) #[] #[]] } (w1.alloc (.loop { state := .ready, pending := none, fn := fnid, tmps := a.tmps, params := ps, assign := as, body := bd, defers := dw })) := by
                    simp only [resolve, hgv, Deferred.ofValue, Sem.run_pure, List.map_toArray, List.map_cons, List.map_nil]; rfl
                  have hdep : F.depth.isSome = true → 1 ≤ 0 := fun h => by rw [hro.fok.depth] at h; cases h
                  refine ⟨w1.heap.size, mark, _, _, _, hh, (a' ++ (#[.func (.yield w1.heap.size) #[] #[]] : Array V)) ++ c', w1.alloc (.loop { state := .ready, pending := none, fn := fnid, tmps := a.tmps, params := ps, assign := as, body := bd, defers := dw }), hent, hres, fun f' _ => hro.fok.fn f', by simp [invoke, callFunc, hfn, hnn, hbody], hdep, ?_⟩
                  refine hro.fok.calls ((hcok _ _ _ hstB.rel (hG.ext hst2.ext) hargs (hst2.top hT)).mono fun e3 w3 he3 => ?_)
                  obtain ⟨v', rfl, cx3, hst3, -⟩ := he3
                  have hm3 := hst3.ext.m A1.n w1.heap.size (Cx.add_m _ _ _ _)
                  obtain ⟨fn3, tmps3, df3, c1, c2, c3, c4⟩ := loop_of hst3.rel hg3 hm3
                  simp only at c1 c2 c3 c4
                  have hst4 := putObj_step hst3.rel (y := .loop ⟨.exhausted, pd, t, nt, ps3, as3, bd3⟩) (o := .loop { state := .exhausted, pending := pd, fn := fn3, tmps := tmps3, params := ps3, assign := as3, body := bd3, defers := df3 }) hg3 (by simp) hm3 ⟨fn3, tmps3, df3, rfl, c2, c3, c4⟩
                  have hall := (hst2.trans hst3).trans hst4
                  have hF3 := hF1.ext (hstB.ext.trans (hst3.ext.trans hst4.ext))
                  refine ⟨pd, _, run_endLoop c1 hnb, ?_⟩
                  cases pd with
                  | none =>
                    simp only [Option.some.injEq, Res.ex.injEq] at h
                    obtain ⟨rfl, rfl, rfl⟩ := h
                    exact ⟨rfl, cx3, hall, hF3⟩
                  | some c3 =>
                    obtain ⟨e', f'', A'', he', hcode⟩ := code_next (P := P) (E := E) hI h hall hst4.rel (hG.ext hall.ext) hF3 (hro.ext hall.ext) (hall.top hT)
                    cases he'
                    exact codeIn.wp hcode
              · cases h
            · cases h
          · cases h
        · cases h
      · cases h
    · cases h
  · cases h
end
end Ax

/-
The abstract run, part 29: the law of the abstract run.
-/
namespace Ax
open Go

section
variable {P : Program} {E : Env} (hE : EnvOk P E) {ih : Task → Option Res} (hI : IhOk P E ih)

include hE hI in
theorem body1_ok {ro : Option Nat} {c : Code} {f : Fr} {A : AW} {r : Res} (h : body1 E ih ro c f A = some r) : ∃ e f' A', r = .ex e f' A' ∧ CodeOk P E ro c f A e f' A' := by
  have now : ∀ (e : Ex) (c : Code), (∀ (F : Fence) (Q : Exit → Act → World → Prop) (a : Act) (w : World), Q (exOf e) a w → codeIn F 0 P c Q a w) → some (Res.ex e f A) = some r → ∃ e f' A', r = .ex e f' A' ∧ CodeOk P E ro c f A e f' A' := fun e c hc h => by
    cases h
    exact ⟨_, _, _, rfl, fun cx w a F hR hG hf hro hT => hc F _ a w ⟨rfl, cx, .refl hR, hf⟩⟩
  cases c with
  | skip => exact now .normal _ (fun F Q a w hq => wpIn_skip hq) h
  | label l => exact now .normal _ (fun F Q a w hq => wpIn_label hq) h
  | exit id => exact now (.exit id) _ (fun F Q a w hq => wpIn_exit hq) h
  | goto l => exact now (.goto l) _ (fun F Q a w hq => wpIn_goto hq) h
  | ret => exact now .ret _ (fun F Q a w hq => wpIn_ret hq) h
  | seq x y =>
    have h : cSeq ih ro y (ih (.code ro x f A)) = some r := h
    cases hx : ih (.code ro x f A) with
    | none => rw [hx] at h; cases h
    | some r1 =>
      obtain ⟨e1, f1, A1, rfl, -⟩ := ih_code (P := P) (E := E) hI hx
      rw [hx] at h
      cases e1 with
      | normal =>
        have h : ih (.code ro y f1 A1) = some r := h
        obtain ⟨e, f', A', rfl, -⟩ := ih_code (P := P) (E := E) hI h
        refine ⟨e, f', A', rfl, fun cx w a F hR hG hf hro hT => ?_⟩
        refine wpIn_seq (codeIn.wp (code_then hI hx hR hG hf hro hT fun cx1 a1 w1 hst hf1 hR1 hG1 hro1 hT1 => ?_))
        obtain ⟨e', f'', A'', he, hc⟩ := code_next (P := P) (E := E) hI h hst hR1 hG1 hf1 hro1 hT1
        cases he
        exact codeIn.wp hc
      | exit id =>
        cases h
        exact ⟨_, _, _, rfl, fun cx w a F hR hG hf hro hT => wpIn_seq (codeIn.wp (code_then hI hx hR hG hf hro hT fun cx1 a1 w1 hst hf1 _ _ _ _ => ⟨rfl, cx1, hst, hf1⟩))⟩
      | goto l =>
        cases h
        exact ⟨_, _, _, rfl, fun cx w a F hR hG hf hro hT => wpIn_seq (codeIn.wp (code_then hI hx hR hG hf hro hT fun cx1 a1 w1 hst hf1 _ _ _ _ => ⟨rfl, cx1, hst, hf1⟩))⟩
      | ret =>
        cases h
        exact ⟨_, _, _, rfl, fun cx w a F hR hG hf hro hT => wpIn_seq (codeIn.wp (code_then hI hx hR hG hf hro hT fun cx1 a1 w1 hst hf1 _ _ _ _ => ⟨rfl, cx1, hst, hf1⟩))⟩
  | cond c x y =>
    have h : (match f.eval E.ng c with
      | .bool t => match t with
        | true => ih (.code ro x f A)
        | false => ih (.code ro y f A)
      | _ => none) = some r := h
    split at h
    · rename_i t hc
      have key : ∀ z, (if t then x else y) = z → ih (.code ro z f A) = some r → ∃ e f' A', r = .ex e f' A' ∧ CodeOk P E ro (.cond c x y) f A e f' A' := fun z hz h => by
        obtain ⟨e, f', A', rfl, hcode⟩ := ih_code (P := P) (E := E) hI h
        refine ⟨e, f', A', rfl, fun cx w a F hR hG hf hro hT => ?_⟩
        have hev := hf.eval hG c
        rw [hc] at hev
        generalize hcv : a.eval c = cv at hev
        cases hev
        refine wpIn_cond hcv ?_
        rw [hz]
        exact codeIn.wp (hcode cx w a F hR hG hf hro hT)
      cases t with
      | true => exact key x rfl h
      | false => exact key y rfl h
    · cases h
  | block id c =>
    have h : cBlock id (ih (.code ro c f A)) = some r := h
    cases hx : ih (.code ro c f A) with
    | none => rw [hx] at h; cases h
    | some r1 =>
      obtain ⟨e1, f1, A1, rfl, -⟩ := ih_code (P := P) (E := E) hI hx
      rw [hx] at h
      cases e1 with
      | exit id' =>
        have h : (match Nat.beq id' id with
          | true => some (Res.ex .normal f1 A1)
          | false => some (Res.ex (.exit id') f1 A1)) = some r := h
        by_cases hid : id' = id
        · rw [beq_eq, decide_eq_true hid] at h
          cases h
          refine ⟨_, _, _, rfl, fun cx w a F hR hG hf hro hT => wpIn_block (codeIn.wp (code_then hI hx hR hG hf hro hT fun cx1 a1 w1 hst hf1 _ _ _ _ => ?_))⟩
          show (if id' = id then _ else _)
          rw [if_pos hid]
          exact ⟨rfl, cx1, hst, hf1⟩
        · rw [beq_eq, decide_eq_false hid] at h
          cases h
          refine ⟨_, _, _, rfl, fun cx w a F hR hG hf hro hT => wpIn_block (codeIn.wp (code_then hI hx hR hG hf hro hT fun cx1 a1 w1 hst hf1 _ _ _ _ => ?_))⟩
          show (if id' = id then _ else _)
          rw [if_neg hid]
          exact ⟨rfl, cx1, hst, hf1⟩
      | normal =>
        cases h
        exact ⟨_, _, _, rfl, fun cx w a F hR hG hf hro hT => wpIn_block (codeIn.wp (code_then hI hx hR hG hf hro hT fun cx1 a1 w1 hst hf1 _ _ _ _ => ⟨rfl, cx1, hst, hf1⟩))⟩
      | goto l =>
        cases h
        exact ⟨_, _, _, rfl, fun cx w a F hR hG hf hro hT => wpIn_block (codeIn.wp (code_then hI hx hR hG hf hro hT fun cx1 a1 w1 hst hf1 _ _ _ _ => ⟨rfl, cx1, hst, hf1⟩))⟩
      | ret =>
        cases h
        exact ⟨_, _, _, rfl, fun cx w a F hR hG hf hro hT => wpIn_block (codeIn.wp (code_then hI hx hR hG hf hro hT fun cx1 a1 w1 hst hf1 _ _ _ _ => ⟨rfl, cx1, hst, hf1⟩))⟩
  | loop c =>
    have h : cSeq ih ro (.loop c) (ih (.code ro c f A)) = some r := h
    cases hx : ih (.code ro c f A) with
    | none => rw [hx] at h; cases h
    | some r1 =>
      obtain ⟨e1, f1, A1, rfl, -⟩ := ih_code (P := P) (E := E) hI hx
      rw [hx] at h
      cases e1 with
      | normal =>
        have h : ih (.code ro (.loop c) f1 A1) = some r := h
        obtain ⟨e, f', A', rfl, -⟩ := ih_code (P := P) (E := E) hI h
        refine ⟨e, f', A', rfl, fun cx w a F hR hG hf hro hT => ?_⟩
        refine inLoop_of (codeIn.wp (code_then hI hx hR hG hf hro hT fun cx1 a1 w1 hst hf1 hR1 hG1 hro1 hT1 => ?_))
        obtain ⟨e', f'', A'', he, hc⟩ := code_next (P := P) (E := E) hI h hst hR1 hG1 hf1 hro1 hT1
        cases he
        exact hc
      | exit id =>
        cases h
        exact ⟨_, _, _, rfl, fun cx w a F hR hG hf hro hT => inLoop_of (codeIn.wp (code_then hI hx hR hG hf hro hT fun cx1 a1 w1 hst hf1 _ _ _ _ => ⟨rfl, cx1, hst, hf1⟩))⟩
      | goto l =>
        cases h
        exact ⟨_, _, _, rfl, fun cx w a F hR hG hf hro hT => inLoop_of (codeIn.wp (code_then hI hx hR hG hf hro hT fun cx1 a1 w1 hst hf1 _ _ _ _ => ⟨rfl, cx1, hst, hf1⟩))⟩
      | ret =>
        cases h
        exact ⟨_, _, _, rfl, fun cx w a F hR hG hf hro hT => inLoop_of (codeIn.wp (code_then hI hx hR hG hf hro hT fun cx1 a1 w1 hst hf1 _ _ _ _ => ⟨rfl, cx1, hst, hf1⟩))⟩
  | scope b =>
    have h : ih (.scope ro b b f A) = some r := h
    have := hI _ _ h
    cases r with
    | ret v A' => exact this.elim
    | ex e f' A' => exact ⟨e, f', A', rfl, fun cx w a F hR hG hf hro hT => wpIn_scope ((show ScopeOk P E ro b b f A e f' A' from this) cx w a F hR hG hf hro hT)⟩
  | region id ops draw =>
    have h : asEx (runRegion E ih ops draw f A) = some r := h
    unfold asEx at h
    split at h
    · rename_i fe Ae hrun
      cases h
      exact ⟨_, _, _, rfl, fun cx w a F hR hG hf hro hT => region_ok hE hI hro.fok hrun hR hG hf hT fun cx' a' w' hst hf' => ⟨rfl, cx', hst, hf'⟩⟩
    · cases h
  | rangeFunc g ps as bd => exact rangeA_ok hE hI h
  | refuse u => cases h

include hE hI in
theorem body_ok (hX : ExtOk P E) {t : Task} {r : Res} (h : body E ih t = some r) : TaskOk P E t r := by
  cases t with
  | code ro c f A =>
    obtain ⟨e, f', A', rfl, hc⟩ := body1_ok hE hI (ro := ro) (c := c) (f := f) (A := A) h
    exact hc
  | call g args A =>
    obtain ⟨v, A', rfl, hc⟩ := callA_ok hE hI hX (g := g) (args := args) (A := A) h
    exact hc
  | round l args A =>
    obtain ⟨v, A', rfl, hc⟩ := roundA_ok hI (l := l) (args := args) (A := A) h
    exact hc
  | scope ro b c f A =>
    have h : cScope ih ro b (ih (.code ro c f A)) = some r := h
    cases hx : ih (.code ro c f A) with
    | none => rw [hx] at h; cases h
    | some r1 =>
      obtain ⟨e1, f1, A1, rfl, -⟩ := ih_code (P := P) (E := E) hI hx
      rw [hx] at h
      cases e1 with
      | goto l =>
        have h : (match findLabel b l with
          | some rest => ih (.scope ro b rest f1 A1)
          | none => some (Res.ex (.goto l) f1 A1)) = some r := h
        split at h
        · rename_i rest hfl
          have hs := hI _ _ h
          cases r with
          | ret v A' => exact hs.elim
          | ex e f' A' =>
            intro cx w a F hR hG hf hro hT
            refine inScope_of (codeIn.wp (code_then hI hx hR hG hf hro hT fun cx1 a1 w1 hst hf1 hR1 hG1 hro1 hT1 => ?_))
            show (match findLabel b l with
              | some rest => inScopeIn F 0 P b rest _ a1 w1
              | none => _)
            rw [hfl]
            intro fr k cs q1 q2 q3
            obtain ⟨e', a', w', ⟨h1, cx2, h2, h3⟩, h4⟩ := (show ScopeOk P E ro b rest f1 A1 e f' A' from hs) cx1 w1 a1 F hR1 hG1 hf1 hro1 hT1 fr k cs q1 q2 q3
            exact ⟨e', a', w', ⟨h1, cx2, hst.trans h2, h3⟩, h4⟩
        · rename_i hfl
          cases h
          intro cx w a F hR hG hf hro hT
          refine inScope_of (codeIn.wp (code_then hI hx hR hG hf hro hT fun cx1 a1 w1 hst hf1 hR1 hG1 hro1 hT1 => ?_))
          show (match findLabel b l with
            | some rest => inScopeIn F 0 P b rest _ a1 w1
            | none => _)
          rw [hfl]
          exact ⟨rfl, cx1, hst, hf1⟩
      | normal =>
        cases h
        exact fun cx w a F hR hG hf hro hT => inScope_of (codeIn.wp (code_then hI hx hR hG hf hro hT fun cx1 a1 w1 hst hf1 _ _ _ _ => ⟨rfl, cx1, hst, hf1⟩))
      | exit id =>
        cases h
        exact fun cx w a F hR hG hf hro hT => inScope_of (codeIn.wp (code_then hI hx hR hG hf hro hT fun cx1 a1 w1 hst hf1 _ _ _ _ => ⟨rfl, cx1, hst, hf1⟩))
      | ret =>
        cases h
        exact fun cx w a F hR hG hf hro hT => inScope_of (codeIn.wp (code_then hI hx hR hG hf hro hT fun cx1 a1 w1 hst hf1 _ _ _ _ => ⟨rfl, cx1, hst, hf1⟩))
end

/-- THE LAW OF THE ABSTRACT RUN. -/
theorem ev_ok {P : Program} {E : Env} (hE : EnvOk P E) (hX : ExtOk P E) : ∀ n, IhOk P E (ev E n) := by
  intro n
  induction n with
  | zero => intro t r h; cases h
  | succ n ih => intro t r h; exact body_ok hE ih hX h
end Ax

/-
The abstract run, part 30: an environment out of a program's tables.
-/
namespace Ax
open Go

/-- the tables, as tries -/
noncomputable def envOf (P : Program) (tt : Tr TypeInfo) (nt : Nat) (ft : Tr Func) (nf ng : Nat) (nb : Nat → List V → Option V) (ext : Nat → List V → AW → Option (V × AW)) : Env where
  info := fun t => match Nat.blt t nt with
    | true => Tr.get 3 tt t
    | false => P.info? t
  und := fun t => match Nat.blt t nt with
    | true => match Tr.get 3 tt t with
      | some i => match i.desc with
        | .named _ u => match Nat.blt u nt with
          | true => match Tr.get 3 tt u with
            | some j => some j.desc
            | none => none
          | false => P.underlying t
        | d => some d
      | none => none
    | false => P.underlying t
  fn := fun f => match Nat.blt f nf with
    | true => Tr.get 3 ft f
    | false => none
  P := P
  ng := ng
  nb := nb
  ext := ext

theorem get_table {α : Type} {l : List α} {t : Tr α} (h : t = Tr.ofList 3 l 0 .nil) (hl : l.length ≤ 1024) {i : Nat} (hi : i < l.length) : Tr.get 3 t i = l[i]? := by
  subst h
  rw [Tr.get_ofList 3 l 0 .nil i (by omega) (by omega), if_pos ⟨Nat.zero_le _, by omega⟩]
  rfl

theorem envOf_ok {P : Program} {tt : Tr TypeInfo} {nt : Nat} {ft : Tr Func} {nf ng : Nat} {nb : Nat → List V → Option V} {ext : Nat → List V → AW → Option (V × AW)}
    (htt : tt = Tr.ofList 3 P.types.toList 0 .nil) (hnt : nt = P.types.size) (hnt' : nt ≤ 1024) (hft : ft = Tr.ofList 3 P.funcs.toList 0 .nil) (hnf : nf = P.funcs.size) (hnf' : nf ≤ 1024)
    (hmixed : P.follows .mixedOrders = true) (hnum : P.funcs.toList.all (fun fn => !(fn.name == "runtime.NumGoroutine")) = true)
    (hnb : ∀ g args v, nb g args = some v → ∀ (cx : Cx) (args' : Array V), LRel cx args args'.toList → ∃ v', VRel cx v v' ∧ ∀ w, (callFunc g args').run P w = .ok (.value v') w) :
    EnvOk P (envOf P tt nt ft nf ng nb ext) := by
  have hinfo : ∀ t, t < nt → Tr.get 3 tt t = P.info? t := fun t ht => by
    rw [get_table htt (by simp; omega) (by simp; omega), Array.getElem?_toList]
    show _ = Tables.info? _ t
    rw [Tables.info?, if_pos (show t < P.types.size from hnt ▸ ht)]
  refine ⟨rfl, fun t => ?_, fun t => ?_, fun f => ?_, hmixed, fun f fn hf => ?_, hnb⟩
  · show (match Nat.blt t nt with | true => Tr.get 3 tt t | false => P.info? t) = _
    by_cases ht : t < nt
    · rw [blt_true ht]; exact hinfo t ht
    · rw [blt_false ht]
  · by_cases ht : t < nt
    · show (match Nat.blt t nt with
        | true => match Tr.get 3 tt t with
          | some i => match i.desc with
            | .named _ u => match Nat.blt u nt with
              | true => match Tr.get 3 tt u with
                | some j => some j.desc
                | none => none
              | false => P.underlying t
            | d => some d
          | none => none
        | false => P.underlying t) = _
      rw [blt_true ht]
      simp only [hinfo t ht]
      unfold Program.underlying
      cases hi : P.info? t with
      | none => rfl
      | some i =>
        obtain ⟨desc, size, zv, comparable, bytes⟩ := i
        simp only
        cases desc
        case named n u =>
          simp only
          by_cases hu : u < nt
          · rw [blt_true hu]
            simp only [hinfo u hu]
            cases P.info? u <;> rfl
          · rw [blt_false hu]
        all_goals rfl
    · show (match Nat.blt t nt with | true => _ | false => P.underlying t) = _
      rw [blt_false ht]
  · show (match Nat.blt f nf with | true => Tr.get 3 ft f | false => none) = _
    by_cases hf : f < nf
    · rw [blt_true hf]
      show Tr.get 3 ft f = _
      rw [get_table hft (by simp; omega) (by simp; omega), Array.getElem?_toList]
    · rw [blt_false hf]
      rw [Array.getElem?_eq_none (by omega)]
  · rw [List.all_eq_true] at hnum
    have := hnum fn (by simpa using Array.mem_of_getElem? hf)
    simpa using this

/-- the world in which a run begins: nothing is known of the package-level variables but where they lie -/
noncomputable def startAW (n : Nat) : AW := ⟨Tr.ofList 4 (List.replicate n Blk.dead) 0 .nil, n⟩
def startCx (n : Nat) : Cx := ⟨fun b => if b < n then some b else none, fun _ => none⟩
theorem start_get {n b : Nat} (hn : n ≤ 65536) (hb : b < n) : (startAW n).get b = some .dead := by
  rw [AW.get_eq _ hb]
  show Tr.get 4 (Tr.ofList 4 (List.replicate n Blk.dead) 0 .nil) b = _
  rw [Tr.get_ofList 4 _ 0 .nil b (by simp; omega) (by omega), if_pos ⟨Nat.zero_le _, by simpa using hb⟩]
  simp [hb]
theorem start_rel {n : Nat} {w : World} (hn : n ≤ 65536) (hw : n ≤ w.heap.size) : Rel (startCx n) (startAW n) w := by
  have hm : ∀ b r, (startCx n).m b = some r → b < n ∧ r = b := fun b r h => by
    unfold startCx at h
    simp only at h
    split at h
    · exact ⟨by assumption, (Option.some.inj h).symm⟩
    · cases h
  refine ⟨fun b x r hx h => ?_, fun b b' r h h' => ?_, fun b r h => ?_, hn, fun b hb => by rw [start_get hn hb]; rfl⟩
  · obtain ⟨h1, rfl⟩ := hm b r h
    rw [start_get hn h1] at hx
    cases hx
    exact ⟨w.heap[r], by simp [show r < w.heap.size from by omega], trivial⟩
  · exact .inl (start_get hn (hm b r h).1)
  · obtain ⟨h1, rfl⟩ := hm b r h
    omega
theorem start_top (n : Nat) : Top (startCx n) (startAW n).n := fun b hb => by
  have hb : n ≤ b := hb
  exact ⟨by unfold startCx; simp; omega, rfl⟩

/-- A RUN FROM THE START: a call of no argument, carried out in whatever world in which the package-level variables lie. -/
theorem run_start {P : Program} {E : Env} (hE : EnvOk P E) (hX : ExtOk P E) {k g n : Nat} {v : V} {A' : AW} (h : ev E k (.call g [] (startAW n)) = some (.ret v A')) (hn : n ≤ 65536) (hng : E.ng ≤ n) {w : World} (hw : n ≤ w.heap.size) :
    Calls P g #[] w fun e w' => ∃ v', e = .returned v' ∧ ∃ cx', Step (startCx n) (startAW n) w cx' A' w' ∧ VRel cx' v v' := by
  have hc : CallOk P E g [] (startAW n) v A' := ev_ok hE hX k _ _ h
  refine callsIn_wide.1 (hc (startCx n) w #[] (start_rel hn hw) (fun b hb => ?_) (LRel.nil _) (start_top n))
  unfold startCx
  simp only
  rw [if_pos (by omega)]
end Ax
