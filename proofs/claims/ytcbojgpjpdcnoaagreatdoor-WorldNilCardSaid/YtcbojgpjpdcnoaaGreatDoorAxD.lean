/-
The abstract run: a deterministic run of a program's code over an abstract heap, evaluated by the kernel, and the law that the model's machine does what it computes. Of no program; no condition. (Part D)
-/
import Derived.Test.YtcbojgpjpdcnoaaGreatDoorAxC
import Derived.Lib.Bytealg
import Derived.Lib.MakeNoZero

/-
The abstract run, part 31: the same run, written so that the kernel evaluates it fast: each arm of a case is a closed function. (Printed by gen31.py.)
-/
namespace Ax
open Go
noncomputable section
abbrev Rho := Operand → V

/-! ### Temporaries -/
def optV (o : Option V) : V := Option.rec (motive := fun _ => V) (undef) (fun v => v) (o)
def ltGet (b : Bool) : Nat → Tr V → Nat → V := Bool.rec (motive := fun _ => Nat → Tr V → Nat → V) (fun _ _ _ => undef) (fun d tr t => optV (Tr.get d tr t)) (b)
def getFr (f : Fr) (t : Nat) : V := Fr.rec (motive := fun _ => Nat → V) (fun d tr n _ t => ltGet (Nat.ble (Nat.succ t) n) d tr t) f t
def constV (b : Bool) (v : V) : V := Bool.rec (motive := fun _ => V → V) (fun _ => unk) (fun v => v) (b) v
def globV (b : Bool) (g : Nat) : V := Bool.rec (motive := fun _ => Nat → V) (fun _ => unk) (fun g => .pointer (some ⟨g, 0, none⟩)) (b) g
def evalF (ng : Nat) (f : Fr) (x : Operand) : V :=
  Operand.rec (motive := fun _ => Nat → Fr → V) (fun t _ f => getFr f t) (fun v _ _ => constV (plainV v) v) (fun g ng _ => globV (Nat.ble (Nat.succ g) ng) g) (fun g _ _ => .func (.func g) #[] #[]) x ng f
theorem getFr_eq (f : Fr) (t : Nat) : getFr f t = f.get t := by
  obtain ⟨d, tr, n, ds⟩ := f
  show ltGet (Nat.blt t n) d tr t = Fr.get _ t
  simp only [Fr.get]
  cases Nat.blt t n with
  | false => rfl
  | true =>
    show optV (Tr.get d tr t) = _
    simp only
    cases Tr.get d tr t <;> rfl
theorem evalF_eq (ng : Nat) (f : Fr) : evalF ng f = f.eval ng := by
  funext x
  cases x with
  | tmp t => exact getFr_eq f t
  | const v => show constV (plainV v) v = _; simp only [Fr.eval]; cases plainV v <;> rfl
  | global g => show globV (Nat.blt g ng) g = _; simp only [Fr.eval]; cases Nat.blt g ng <;> rfl
  | func g => rfl
def putLt (b : Bool) : Nat → Tr V → Nat → List Nat → Nat → V → Fr := Bool.rec (motive := fun _ => Nat → Tr V → Nat → List Nat → Nat → V → Fr) (fun d t n ds _ _ => ⟨d, t, n, ds⟩) (fun d t n ds x v => ⟨d, Tr.set d t x v, n, ds⟩) (b)
def putFr (f : Fr) (dst : Option Tmp) (v : V) : Fr := Option.rec (motive := fun _ => Fr → V → Fr) (fun f _ => f) (fun x f v => Fr.rec (motive := fun _ => Nat → V → Fr) (fun d t n ds x v => putLt (Nat.ble (Nat.succ x) n) d t n ds x v) f x v) (dst) f v
theorem putFr_eq (f : Fr) (dst : Option Tmp) (v : V) : putFr f dst v = f.put dst v := by
  obtain ⟨d, t, n, ds⟩ := f
  cases dst with
  | none => rfl
  | some x =>
    show putLt (Nat.blt x n) d t n ds x v = _
    simp only [Fr.put]
    cases Nat.blt x n <;> rfl

/-! ### Blocks -/
def ltB (b : Bool) : Tr Blk → Nat → Option Blk := Bool.rec (motive := fun _ => Tr Blk → Nat → Option Blk) (fun _ _ => none) (fun h b => Tr.get 4 h b) (b)
def getB (A : AW) (b : Nat) : Option Blk := AW.rec (motive := fun _ => Nat → Option Blk) (fun h n b => ltB (Nat.ble (Nat.succ b) n) h b) A b
def putB (A : AW) (b : Nat) (x : Blk) : AW := AW.rec (motive := fun _ => Nat → Blk → AW) (fun h n b x => ⟨Tr.set 4 h b x, n⟩) A b x
def newLt (c : Bool) : Tr Blk → Nat → Blk → Option (Nat × AW) := Bool.rec (motive := fun _ => Tr Blk → Nat → Blk → Option (Nat × AW)) (fun _ _ _ => none) (fun h n x => some (n, ⟨Tr.set 4 h n x, Nat.succ n⟩)) (c)
def newB (A : AW) (x : Blk) : Option (Nat × AW) :=
  AW.rec (motive := fun _ => Blk → Option (Nat × AW)) (fun h n x =>
    Nat.rec (motive := fun _ => Tr Blk → Blk → Option (Nat × AW)) (fun h x => newLt true h 0 x) (fun m _ h x => newLt (Nat.ble (Nat.succ (Nat.succ m)) 65536) h (Nat.succ m) x) n h x) A x
theorem getB_eq (A : AW) (b : Nat) : getB A b = A.get b := by
  obtain ⟨h, n⟩ := A
  show ltB (Nat.blt b n) h b = AW.get _ b
  simp only [AW.get]
  cases Nat.blt b n <;> rfl
theorem putB_eq (A : AW) (b : Nat) (x : Blk) : putB A b x = A.put b x := by cases A; rfl
theorem newB_eq (A : AW) (x : Blk) : newB A x = A.new x := by
  obtain ⟨h, n⟩ := A
  cases n with
  | zero => rfl
  | succ m =>
    show newLt (Nat.blt (m + 1) 65536) h (m + 1) x = AW.new _ x
    simp only [AW.new]
    cases Nat.blt (m + 1) 65536 <;> rfl

/-! ### Cells -/
def consO (a : V) (r : Option (List V)) : Option (List V) := Option.rec (motive := fun _ => V → Option (List V)) (fun _ => none) (fun l a => some (a :: l)) (r) a
def takeF (n : Nat) (l : List V) : Option (List V) := Nat.rec (motive := fun _ => List V → Option (List V)) (fun _ => some []) (fun _ ih l => List.rec (motive := fun _ => (List V → Option (List V)) → Option (List V)) (fun _ => none) (fun a t _ ih => consO a (ih t)) l ih) n l
def dropF (n : Nat) (l : List V) : Option (List V) := Nat.rec (motive := fun _ => List V → Option (List V)) (fun l => some l) (fun _ ih l => List.rec (motive := fun _ => (List V → Option (List V)) → Option (List V)) (fun _ => none) (fun _ t _ ih => ih t) l ih) n l
def partF (l : List V) (off n : Nat) : Option (List V) := Option.rec (motive := fun _ => Nat → Option (List V)) (fun _ => none) (fun l n => takeF n l) (dropF off l) n
def overF (l r : List V) : Option (List V) := List.rec (motive := fun _ => List V → Option (List V)) (fun l => some l) (fun a _ ih l => List.rec (motive := fun _ => V → (List V → Option (List V)) → Option (List V)) (fun _ _ => none) (fun _ t _ a ih => consO a (ih t)) l a ih) r l
def spliceF (l : List V) (n : Nat) (r : List V) : Option (List V) := Nat.rec (motive := fun _ => List V → List V → Option (List V)) (fun l r => overF l r) (fun _ ih l r => List.rec (motive := fun _ => (List V → List V → Option (List V)) → List V → Option (List V)) (fun _ _ => none) (fun a t _ ih r => consO a (ih t r)) l ih r) n l r
theorem consO_eq (a : V) (r : Option (List V)) : consO a r = (match r with | some l => some (a :: l) | none => none) := by cases r <;> rfl
theorem takeF_eq (n : Nat) (l : List V) : takeF n l = ltake n l := by
  induction n generalizing l with
  | zero => cases l <;> rfl
  | succ n ih =>
    cases l with
    | nil => rfl
    | cons a l => show consO a (takeF n l) = _; rw [ih, consO_eq, ltake]; cases ltake n l <;> rfl
theorem dropF_eq (n : Nat) (l : List V) : dropF n l = ldrop n l := by
  induction n generalizing l with
  | zero => cases l <;> rfl
  | succ n ih =>
    cases l with
    | nil => rfl
    | cons a l => exact ih l
theorem partF_eq (l : List V) (off n : Nat) : partF l off n = lpart l off n := by
  unfold partF lpart
  rw [dropF_eq]
  cases ldrop off l with
  | none => rfl
  | some l' => exact takeF_eq n l'
theorem overF_eq (l r : List V) : overF l r = lover l r := by
  induction r generalizing l with
  | nil => cases l <;> rfl
  | cons a r ih =>
    cases l with
    | nil => rfl
    | cons b l => show consO a (overF l r) = _; rw [ih, consO_eq, lover]; cases lover l r <;> rfl
theorem spliceF_eq (l : List V) (n : Nat) (r : List V) : spliceF l n r = lsplice l n r := by
  induction n generalizing l with
  | zero => show overF l r = _; rw [overF_eq]; cases l <;> rfl
  | succ n ih =>
    cases l with
    | nil => rfl
    | cons a l => show consO a (spliceF l n r) = _; rw [ih, consO_eq, lsplice]; cases lsplice l n r <;> rfl

def blkLoad (x : Option Blk) : Nat → Nat → Option (List V) := Option.rec (motive := fun _ => Nat → Nat → Option (List V)) (fun _ _ => none) (fun x => Blk.rec (motive := fun _ => Nat → Nat → Option (List V)) (fun vs _ _ _ _ off n => partF vs off n) (fun _ _ => none) (fun _ _ _ _ => none) (fun _ _ _ _ => none) (fun _ _ _ _ _ _ => none) (fun _ _ _ => none) (fun _ _ _ => none) (x)) (x)
def loadF (A : AW) (a : Addr) (n : Nat) : Option (List V) := Addr.rec (motive := fun _ => AW → Nat → Option (List V)) (fun b off p A n => Option.rec (motive := fun _ => Nat → Nat → AW → Nat → Option (List V)) (fun b off A n => blkLoad (getB A b) off n) (fun _ _ _ _ _ => none) (p) b off A n) a A n
theorem loadF_eq (A : AW) (a : Addr) (n : Nat) : loadF A a n = A.load a n := by
  obtain ⟨b, off, p⟩ := a
  cases p with
  | some _ => rfl
  | none =>
    show blkLoad (getB A b) off n = AW.load A _ n
    rw [getB_eq]
    simp only [AW.load]
    cases A.get b with
    | none => rfl
    | some x =>
      cases x
      case cells vs e z g ro => exact partF_eq vs off n
      all_goals rfl
def putO (r : Option (List V)) : AW → Nat → Nat → Nat → Bool → Option AW := Option.rec (motive := fun _ => AW → Nat → Nat → Nat → Bool → Option AW) (fun _ _ _ _ _ => none) (fun vs A b e z g => some (putB A b (.cells vs e z g false))) (r)
def blkStore (x : Option Blk) : AW → Nat → Nat → List V → Option AW := Option.rec (motive := fun _ => AW → Nat → Nat → List V → Option AW) (fun _ _ _ _ => none) (fun x => Blk.rec (motive := fun _ => AW → Nat → Nat → List V → Option AW) (fun vs e z g ro A b off xs => Bool.rec (motive := fun _ => List V → Nat → Nat → Bool → AW → Nat → Nat → List V → Option AW) (fun vs e z g A b off xs => putO (spliceF vs off xs) A b e z g) (fun _ _ _ _ _ _ _ _ => none) (ro) vs e z g A b off xs) (fun _ _ _ _ => none) (fun _ _ _ _ _ _ => none) (fun _ _ _ _ _ _ => none) (fun _ _ _ _ _ _ _ _ => none) (fun _ _ _ _ _ => none) (fun _ _ _ _ _ => none) (x)) (x)
def storeF (A : AW) (a : Addr) (xs : List V) : Option AW := Addr.rec (motive := fun _ => AW → List V → Option AW) (fun b off p A xs => Option.rec (motive := fun _ => Nat → Nat → AW → List V → Option AW) (fun b off A xs => blkStore (getB A b) A b off xs) (fun _ _ _ _ _ => none) (p) b off A xs) a A xs
theorem storeF_eq (A : AW) (a : Addr) (xs : List V) : storeF A a xs = A.store a xs := by
  obtain ⟨b, off, p⟩ := a
  cases p with
  | some _ => rfl
  | none =>
    show blkStore (getB A b) A b off xs = AW.store A _ xs
    rw [getB_eq]
    simp only [AW.store]
    cases A.get b with
    | none => rfl
    | some x =>
      cases x
      case cells vs e z g ro =>
        cases ro with
        | true => rfl
        | false =>
          show putO (spliceF vs off xs) A b e z g = _
          rw [spliceF_eq]
          simp only
          cases lsplice vs off xs with
          | none => rfl
          | some vs' => show some (putB A b _) = _; rw [putB_eq]
      all_goals rfl

/-! ### Operations -/
def valF (x : Option V) (A : AW) : Option ORes := Option.rec (motive := fun _ => AW → Option ORes) (fun _ => none) (fun v A => some (.val v A)) (x) A
theorem valF_eq (x : Option V) (A : AW) : valF x A = valO A x := by cases x <;> rfl
def singleF (l : Option (List V)) : Option V := Option.rec (motive := fun _ => Option V) (none) (fun l => single l) (l)
def aggL (l : Option (List V)) : Option V := Option.rec (motive := fun _ => Option V) (none) (fun l => some (.agg ⟨l⟩)) (l)
def aggN (n : Option Nat) : AW → Addr → Option V := Option.rec (motive := fun _ => AW → Addr → Option V) (fun _ _ => none) (fun n A a => aggL (loadF A a n)) (n)
def loadVarF (b : Option Bool) : Env → AW → Nat → Addr → Option V := Option.rec (motive := fun _ => Env → AW → Nat → Addr → Option V) (fun _ _ _ _ => none) (fun b => Bool.rec (motive := fun _ => Env → AW → Nat → Addr → Option V) (fun _ A _ a => singleF (loadF A a 1)) (fun E A t a => aggN (E.size t) A a) (b)) (b)
theorem loadVarF_eq (E : Env) (A : AW) (t : Nat) (a : Addr) : loadVarF (E.agg t) E A t a = loadVarA E A t a := by
  unfold loadVarA
  cases E.agg t with
  | none => rfl
  | some b =>
    cases b with
    | false => show singleF (loadF A a 1) = _; rw [loadF_eq]; simp only; cases A.load a 1 <;> rfl
    | true =>
      show aggN (E.size t) A a = _
      simp only
      cases E.size t with
      | none => rfl
      | some n => show aggL (loadF A a n) = _; rw [loadF_eq]; simp only; cases A.load a n <;> rfl
def aLoadF (v : V) : Env → AW → Nat → Option ORes := Value.rec (motive_1 := fun _ => Env → AW → Nat → Option ORes) (motive_2 := fun _ => Unit) (motive_3 := fun _ => Unit) (fun _ => fun _ _ _ => none) (fun _ _ => fun _ _ _ => none) (fun _ _ => fun _ _ _ => none) (fun _ _ _ => fun _ _ _ => none) (fun _ => fun _ _ _ => none) (fun p => Option.rec (motive := fun _ => Env → AW → Nat → Option ORes) (fun _ _ _ => none) (fun a E A t => valF (loadVarF (E.agg t) E A t a) A) (p)) (fun _ _ _ => fun _ _ _ => none) (fun _ => fun _ _ _ => none) (fun _ => fun _ _ _ => none) (fun _ _ _ _ _ => fun _ _ _ => none) (fun _ _ _ => none) (fun _ _ _ => fun _ _ _ => none) (fun _ _ _ => none) (fun _ _ => fun _ _ _ => none) (fun _ _ => fun _ _ _ => none) (fun _ _ => ()) () (fun _ _ _ _ => ()) (v)
theorem aLoadF_eq (E : Env) (A : AW) (ρ : Rho) (t : Nat) (x : Operand) : aLoadF (ρ x) E A t = aLoad E A ρ t x := by
  unfold aLoad
  cases ρ x
  case pointer p =>
    cases p with
    | none => rfl
    | some a => show valF (loadVarF (E.agg t) E A t a) A = _; rw [loadVarF_eq, valF_eq]
  all_goals rfl
def undO (r : Option AW) : Option ORes := Option.rec (motive := fun _ => Option ORes) (none) (fun A => some (.val undef A)) (r)
def stB (b : Bool) : Addr → List V → AW → Option ORes := Bool.rec (motive := fun _ => Addr → List V → AW → Option ORes) (fun _ _ _ => none) (fun a cs A => undO (storeF A a cs)) (b)
def stC (cs : Option (List V)) : Nat → Addr → AW → Option ORes := Option.rec (motive := fun _ => Nat → Addr → AW → Option ORes) (fun _ _ _ => none) (fun cs s a A => stB (Nat.beq cs.length s) a cs A) (cs)
def stS (s : Option Nat) : Option (List V) → Addr → AW → Option ORes := Option.rec (motive := fun _ => Option (List V) → Addr → AW → Option ORes) (fun _ _ _ => none) (fun s cs a A => stC cs s a A) (s)
def aStoreF (v : V) : Option Nat → Option (List V) → AW → Option ORes := Value.rec (motive_1 := fun _ => Option Nat → Option (List V) → AW → Option ORes) (motive_2 := fun _ => Unit) (motive_3 := fun _ => Unit) (fun _ => fun _ _ _ => none) (fun _ _ => fun _ _ _ => none) (fun _ _ => fun _ _ _ => none) (fun _ _ _ => fun _ _ _ => none) (fun _ => fun _ _ _ => none) (fun p => Option.rec (motive := fun _ => Option Nat → Option (List V) → AW → Option ORes) (fun _ _ _ => none) (fun a s cs A => stS s cs a A) (p)) (fun _ _ _ => fun _ _ _ => none) (fun _ => fun _ _ _ => none) (fun _ => fun _ _ _ => none) (fun _ _ _ _ _ => fun _ _ _ => none) (fun _ _ _ => none) (fun _ _ _ => fun _ _ _ => none) (fun _ _ _ => none) (fun _ _ => fun _ _ _ => none) (fun _ _ => fun _ _ _ => none) (fun _ _ => ()) () (fun _ _ _ _ => ()) (v)
theorem aStoreF_eq (E : Env) (A : AW) (ρ : Rho) (t : Nat) (x y : Operand) : aStoreF (ρ x) (E.size t) (cellsO (ρ y)) A = aStore E A ρ t x y := by
  unfold aStore
  cases ρ x
  case pointer p =>
    cases p with
    | none => rfl
    | some a =>
      show stS (E.size t) (cellsO (ρ y)) a A = _
      cases E.size t with
      | none => rfl
      | some s =>
        show stC (cellsO (ρ y)) s a A = _
        cases cellsO (ρ y) with
        | none => rfl
        | some cs =>
          show stB (Nat.beq cs.length s) a cs A = _
          simp only
          cases Nat.beq cs.length s with
          | false => rfl
          | true => show undO (storeF A a cs) = _; rw [storeF_eq]; simp only; cases A.store a cs <;> rfl
  all_goals rfl
def fOff (E : Env) (s f : Nat) : Option Nat := match E.und s with
  | some (.struct fs) => match lget fs.toList f with
    | some fd => match E.size fd.type with
      | some (_ + 1) => some fd.offset
      | _ => none
    | none => none
  | _ => none
def ptrN (b n : Nat) (A : AW) : Option ORes := Nat.rec (motive := fun _ => Nat → AW → Option ORes) (fun b A => some (.val (.pointer (some ⟨b, 0, none⟩)) A)) (fun m _ b A => some (.val (.pointer (some ⟨b, Nat.succ m, none⟩)) A)) n b A
def faA (a : Addr) : Nat → AW → Option ORes := Addr.rec (motive := fun _ => Nat → AW → Option ORes) (fun b off p o A => Option.rec (motive := fun _ => Nat → Nat → Nat → AW → Option ORes) (fun b off o A => ptrN b (Nat.add off o) A) (fun _ _ _ _ _ => none) (p) b off o A) a
def faV (v : V) : Nat → AW → Option ORes := Value.rec (motive_1 := fun _ => Nat → AW → Option ORes) (motive_2 := fun _ => Unit) (motive_3 := fun _ => Unit) (fun _ => fun _ _ => none) (fun _ _ => fun _ _ => none) (fun _ _ => fun _ _ => none) (fun _ _ _ => fun _ _ => none) (fun _ => fun _ _ => none) (fun p => Option.rec (motive := fun _ => Nat → AW → Option ORes) (fun _ _ => none) (fun a => faA a) (p)) (fun _ _ _ => fun _ _ => none) (fun _ => fun _ _ => none) (fun _ => fun _ _ => none) (fun _ _ _ _ _ => fun _ _ => none) (fun _ _ => none) (fun _ _ _ => fun _ _ => none) (fun _ _ => none) (fun _ _ => fun _ _ => none) (fun _ _ => fun _ _ => none) (fun _ _ => ()) () (fun _ _ _ _ => ()) (v)
def aFieldAddrF (o : Option Nat) : V → AW → Option ORes := Option.rec (motive := fun _ => V → AW → Option ORes) (fun _ _ => none) (fun o v A => faV v o A) (o)
theorem ptrN_eq (b n : Nat) (A : AW) : ptrN b n A = forceN n fun off => some (.val (.pointer (some ⟨b, off, none⟩)) A) := by cases n <;> rfl
theorem aFieldAddrF_eq (E : Env) (A : AW) (ρ : Rho) (s : Nat) (x : Operand) (f : Nat) : aFieldAddrF (fOff E s f) (ρ x) A = aFieldAddr E A ρ s x f := by
  have hv : ∀ (v : V) (o : Nat), faV v o A = (match v with | .pointer (some ⟨b, off, none⟩) => forceN (Nat.add off o) fun off => some (.val (.pointer (some ⟨b, off, none⟩)) A) | _ => none) := by
    intro v o
    cases v
    case pointer p =>
      cases p with
      | none => rfl
      | some a =>
        obtain ⟨b, off, q⟩ := a
        cases q with
        | some _ => rfl
        | none => exact ptrN_eq _ _ _
    all_goals rfl
  unfold aFieldAddr fOff
  cases hu : E.und s with
  | none => rfl
  | some d =>
    cases d
    case struct fs =>
      simp only
      cases hl : lget fs.toList f with
      | none =>
        show none = _
        generalize ρ x = v
        cases v
        case pointer p =>
          cases p with
          | none => rfl
          | some a =>
            obtain ⟨b, off, q⟩ := a
            cases q with
            | none => simp only [hl]
            | some _ => rfl
        all_goals rfl
      | some fd =>
        simp only
        cases hs : E.size fd.type with
        | none =>
          show none = _
          generalize ρ x = v
          cases v
          case pointer p =>
            cases p with
            | none => rfl
            | some a =>
              obtain ⟨b, off, q⟩ := a
              cases q with
              | none => simp only [hl, hs]
              | some _ => rfl
          all_goals rfl
        | some n =>
          cases n with
          | zero =>
            show none = _
            generalize ρ x = v
            cases v
            case pointer p =>
              cases p with
              | none => rfl
              | some a =>
              obtain ⟨b, off, q⟩ := a
              cases q with
              | none => simp only [hl, hs]
              | some _ => rfl
            all_goals rfl
          | succ n =>
            show faV (ρ x) fd.offset A = _
            rw [hv]
            generalize ρ x = v
            cases v
            case pointer p =>
              cases p with
              | none => rfl
              | some a =>
              obtain ⟨b, off, q⟩ := a
              cases q with
              | none => simp only [hl, hs]
              | some _ => rfl
            all_goals rfl
    all_goals rfl

/-! ### Integers -/
def someNF (k : IntKind) (m : Nat) : Option V := Nat.rec (motive := fun _ => IntKind → Option V) (fun k => some (.int k (.ofNat 0))) (fun m _ k => some (.int k (.ofNat (Nat.succ m)))) m k
def addNF (c : Bool) : IntKind → Nat → Option V := Bool.rec (motive := fun _ => IntKind → Nat → Option V) (fun k m => someI k (wrapF k (.ofNat m))) (fun k m => someNF k m) (c)
def subNF (c : Bool) : IntKind → Nat → Nat → Option V := Bool.rec (motive := fun _ => IntKind → Nat → Nat → Option V) (fun k a b => someI k (wrapF k (subN a b))) (fun k a b => addNF (Nat.ble (Nat.sub a b) (kmax k)) k (Nat.sub a b)) (c)
def someBF (b : Bool) : Option V := Bool.rec (motive := fun _ => Option V) (some (.bool false)) (some (.bool true)) (b)
def intBinNF (op : BinOp) : IntKind → Nat → Nat → Option V := BinOp.rec (motive := fun _ => IntKind → Nat → Nat → Option V) (fun k a b => addNF (Nat.ble (Nat.add a b) (kmax k)) k (Nat.add a b)) (fun k a b => subNF (Nat.ble b a) k a b) (fun k a b => addNF (Nat.ble (Nat.mul a b) (kmax k)) k (Nat.mul a b)) (fun k a b => intBinN .quo k a b) (fun k a b => intBinN .rem k a b) (fun k a b => intBinN .and k a b) (fun k a b => intBinN .or k a b) (fun k a b => intBinN .xor k a b) (fun _ _ _ => none) (fun _ _ _ => none) (fun _ _ _ => none) (fun _ a b => someBF (Nat.beq a b)) (fun _ a b => someBF (not (Nat.beq a b))) (fun _ a b => someBF (Nat.ble (Nat.succ a) b)) (fun _ a b => someBF (Nat.ble a b)) (fun _ a b => someBF (Nat.ble (Nat.succ b) a)) (fun _ a b => someBF (Nat.ble b a)) op
theorem someNF_eq (k : IntKind) (m : Nat) : someNF k m = someI k (.ofNat m) := by cases m <;> rfl
theorem addNF_eq (k : IntKind) (m : Nat) : addNF (Nat.ble m (kmax k)) k m = someI k (wrapF k (.ofNat m)) := by
  cases h : Nat.ble m (kmax k) with
  | false => rfl
  | true => show someNF k m = _; rw [someNF_eq]; simp only [wrapF, h]
theorem someBF_eq (b : Bool) : someBF b = someB b := by cases b <;> rfl
theorem intBinNF_eq (op : BinOp) (k : IntKind) (a b : Nat) : intBinNF op k a b = intBinN op k a b := by
  cases op
  case add => exact addNF_eq ..
  case mul => exact addNF_eq ..
  case sub =>
    show subNF (Nat.ble b a) k a b = someI k (wrapF k (subN a b))
    cases h : Nat.ble b a with
    | false => rfl
    | true =>
      show addNF (Nat.ble (Nat.sub a b) (kmax k)) k (Nat.sub a b) = _
      rw [addNF_eq]
      simp only [subN, h]
  case eql => exact someBF_eq _
  case neq => exact someBF_eq _
  case lss => exact someBF_eq _
  case leq => exact someBF_eq _
  case gtr => exact someBF_eq _
  case geq => exact someBF_eq _
  all_goals rfl
def intBinF (op : BinOp) (k : IntKind) (a b : Int) : Option V := Int.rec (motive := fun _ => BinOp → IntKind → Int → Option V) (fun a op k b => Int.rec (motive := fun _ => BinOp → IntKind → Nat → Option V) (fun b op k a => intBinNF op k a b) (fun b op k a => intBin op k (.ofNat a) (.negSucc b)) b op k a) (fun a op k b => intBin op k (.negSucc a) b) a op k b
theorem intBinF_eq (op : BinOp) (k : IntKind) (a b : Int) : intBinF op k a b = intBin op k a b := by
  cases a <;> cases b
  · exact intBinNF_eq ..
  all_goals rfl
def shiftP (k : IntKind) (a b : Int) (E : Env) (A : AW) (ρ : Rho) (o : Oper) (op : BinOp) : Option ORes := match a, b with
  | .ofNat a, .ofNat b => match shiftN op k a b with
    | some v => some (.val v A)
    | none => pureOp E A ρ o
  | _, _ => pureOp E A ρ o
def orShift (r : Option V) : IntKind → Int → Int → Env → AW → Rho → Oper → BinOp → Option ORes := Option.rec (motive := fun _ => IntKind → Int → Int → Env → AW → Rho → Oper → BinOp → Option ORes) (fun k a b E A ρ o op => shiftP k a b E A ρ o op) (fun v _ _ _ _ A _ _ _ => some (.val v A)) (r)
def binK (c : Bool) : IntKind → Int → Int → Env → AW → Rho → Oper → BinOp → Option ORes := Bool.rec (motive := fun _ => IntKind → Int → Int → Env → AW → Rho → Oper → BinOp → Option ORes) (fun k a b E A ρ o op => shiftP k a b E A ρ o op) (fun k a b E A ρ o op => orShift (intBinF op k a b) k a b E A ρ o op) (c)
def binI (w : V) : IntKind → Int → Env → AW → Rho → Oper → BinOp → Option ORes := Value.rec (motive_1 := fun _ => IntKind → Int → Env → AW → Rho → Oper → BinOp → Option ORes) (motive_2 := fun _ => Unit) (motive_3 := fun _ => Unit) (fun _ => fun _ _ _ _ _ _ _ => none) (fun k' b k a E A ρ o op => binK (keq k k') k a b E A ρ o op) (fun _ _ => fun _ _ _ _ _ _ _ => none) (fun _ _ _ => fun _ _ _ _ _ _ _ => none) (fun _ => fun _ _ _ _ _ _ _ => none) (fun _ => fun _ _ _ _ _ _ _ => none) (fun _ _ _ => fun _ _ _ _ _ _ _ => none) (fun _ => fun _ _ _ _ _ _ _ => none) (fun _ => fun _ _ _ _ _ _ _ => none) (fun _ _ _ _ _ => fun _ _ _ _ _ _ _ => none) (fun _ _ _ _ _ _ _ => none) (fun _ _ _ => fun _ _ _ _ _ _ _ => none) (fun _ _ _ _ _ _ _ => none) (fun _ _ => fun _ _ _ _ _ _ _ => none) (fun _ _ => fun _ _ _ _ _ _ _ => none) (fun _ _ => ()) () (fun _ _ _ _ => ()) (w)
def aBinOpF (v : V) : Env → AW → Rho → Oper → BinOp → Nat → Operand → Operand → Option ORes := Value.rec (motive_1 := fun _ => Env → AW → Rho → Oper → BinOp → Nat → Operand → Operand → Option ORes) (motive_2 := fun _ => Unit) (motive_3 := fun _ => Unit) (fun _ => fun E A ρ o op t x y => aBinOp E A ρ o op t x y) (fun k a E A ρ o op _ _ y => binI (ρ y) k a E A ρ o op) (fun _ _ => fun E A ρ o op t x y => aBinOp E A ρ o op t x y) (fun _ _ _ => fun E A ρ o op t x y => aBinOp E A ρ o op t x y) (fun _ => fun E A ρ o op t x y => aBinOp E A ρ o op t x y) (fun _ => fun E A ρ o op t x y => aBinOp E A ρ o op t x y) (fun _ _ _ => fun E A ρ o op t x y => aBinOp E A ρ o op t x y) (fun _ => fun E A ρ o op t x y => aBinOp E A ρ o op t x y) (fun _ => fun E A ρ o op t x y => aBinOp E A ρ o op t x y) (fun _ _ _ _ _ => fun E A ρ o op t x y => aBinOp E A ρ o op t x y) (fun E A ρ o op t x y => aBinOp E A ρ o op t x y) (fun _ _ _ => fun E A ρ o op t x y => aBinOp E A ρ o op t x y) (fun E A ρ o op t x y => aBinOp E A ρ o op t x y) (fun _ _ => fun E A ρ o op t x y => aBinOp E A ρ o op t x y) (fun _ _ => fun E A ρ o op t x y => aBinOp E A ρ o op t x y) (fun _ _ => ()) () (fun _ _ _ _ => ()) (v)
theorem aBinOpF_eq (E : Env) (A : AW) (ρ : Rho) (o : Oper) (op : BinOp) (t : Nat) (x y : Operand) : aBinOpF (ρ x) E A ρ o op t x y = aBinOp E A ρ o op t x y := by
  cases h : ρ x
  case int k a =>
    show binI (ρ y) k a E A ρ o op = _
    unfold aBinOp
    simp only [h]
    cases ρ y
    case int k' b =>
      show binK (keq k k') k a b E A ρ o op = _
      simp only
      cases keq k k' with
      | false => rfl
      | true =>
        show orShift (intBinF op k a b) k a b E A ρ o op = _
        rw [intBinF_eq]
        simp only
        cases intBin op k a b <;> rfl
    all_goals rfl
  all_goals rfl


/-! ### Conversions, lengths, elements, fields -/
def convK (E : Env) (s d : Nat) : Option IntKind := match E.und s, E.und d with
  | some _, some (.int k) => some k
  | _, _ => none
def convI (v : V) : IntKind → Env → AW → Rho → Oper → Nat → Nat → Operand → Option ORes := Value.rec (motive_1 := fun _ => IntKind → Env → AW → Rho → Oper → Nat → Nat → Operand → Option ORes) (motive_2 := fun _ => Unit) (motive_3 := fun _ => Unit) (fun _ => fun _ E A ρ o s d x => aConvert E A ρ o s d x) (fun _ n k _ A _ _ _ _ _ => valF (someI k (wrapF k n)) A) (fun _ _ => fun _ E A ρ o s d x => aConvert E A ρ o s d x) (fun _ _ _ => fun _ E A ρ o s d x => aConvert E A ρ o s d x) (fun _ => fun _ E A ρ o s d x => aConvert E A ρ o s d x) (fun _ => fun _ E A ρ o s d x => aConvert E A ρ o s d x) (fun _ _ _ => fun _ E A ρ o s d x => aConvert E A ρ o s d x) (fun _ => fun _ E A ρ o s d x => aConvert E A ρ o s d x) (fun _ => fun _ E A ρ o s d x => aConvert E A ρ o s d x) (fun _ _ _ _ _ => fun _ E A ρ o s d x => aConvert E A ρ o s d x) (fun _ E A ρ o s d x => aConvert E A ρ o s d x) (fun _ _ _ => fun _ E A ρ o s d x => aConvert E A ρ o s d x) (fun _ E A ρ o s d x => aConvert E A ρ o s d x) (fun _ _ => fun _ E A ρ o s d x => aConvert E A ρ o s d x) (fun _ _ => fun _ E A ρ o s d x => aConvert E A ρ o s d x) (fun _ _ => ()) () (fun _ _ _ _ => ()) (v)
def aConvertF (k : Option IntKind) : V → Env → AW → Rho → Oper → Nat → Nat → Operand → Option ORes := Option.rec (motive := fun _ => V → Env → AW → Rho → Oper → Nat → Nat → Operand → Option ORes) (fun _ E A ρ o s d x => aConvert E A ρ o s d x) (fun k v E A ρ o s d x => convI v k E A ρ o s d x) (k)
theorem aConvertF_eq (E : Env) (A : AW) (ρ : Rho) (o : Oper) (s d : Nat) (x : Operand) : aConvertF (convK E s d) (ρ x) E A ρ o s d x = aConvert E A ρ o s d x := by
  cases hk : convK E s d with
  | none => rfl
  | some k =>
    show convI (ρ x) k E A ρ o s d x = _
    cases hx : ρ x
    case int k' n =>
      show valF (someI k (wrapF k n)) A = _
      rw [valF_eq]
      unfold convK at hk
      unfold aConvert
      split at hk
      · rename_i h1 h2
        cases hk
        simp only [h1, h2, hx]
      · cases hk
    all_goals rfl
def isSl (E : Env) (t : Nat) : Bool := match E.und t with
  | some (.slice _) => true
  | _ => false
def lenSl (v : V) : Env → AW → Nat → Option ORes := Value.rec (motive_1 := fun _ => Env → AW → Nat → Option ORes) (motive_2 := fun _ => Unit) (motive_3 := fun _ => Unit) (fun _ => fun _ _ _ => none) (fun _ _ => fun _ _ _ => none) (fun _ _ => fun _ _ _ => none) (fun _ _ _ => fun _ _ _ => none) (fun _ => fun _ _ _ => none) (fun _ => fun _ _ _ => none) (fun _ n _ _ A _ => some (.val (.int .i64 (.ofNat n)) A)) (fun _ => fun _ _ _ => none) (fun _ => fun _ _ _ => none) (fun _ _ _ _ _ => fun _ _ _ => none) (fun _ _ _ => none) (fun _ _ _ => fun _ _ _ => none) (fun _ _ _ => none) (fun _ _ => fun _ _ _ => none) (fun _ _ => fun _ _ _ => none) (fun _ _ => ()) () (fun _ _ _ _ => ()) (v)
def aLenF (b : Bool) : V → Env → AW → Nat → Option ORes := Bool.rec (motive := fun _ => V → Env → AW → Nat → Option ORes) (fun v E A t => aLen E A t v) (fun v E A t => lenSl v E A t) (b)
theorem aLenF_eq (E : Env) (A : AW) (t : Nat) (v : V) : aLenF (isSl E t) v E A t = aLen E A t v := by
  cases h : isSl E t with
  | false => rfl
  | true =>
    show lenSl v E A t = _
    unfold isSl at h
    unfold aLen
    split at h
    · rename_i e h1
      simp only [h1]
      cases v <;> rfl
    · cases h
def elemI (E : Env) (t : Nat) : Option (Option Nat × Nat) := match E.und t with
  | some (.array n e) => match E.size e with
    | some s => some (some n, s)
    | none => none
  | some (.slice e) => match E.size e with
    | some s => some (none, s)
    | none => none
  | _ => none
def idxB (b : Bool) : Nat → Nat → Nat → Nat → AW → Option ORes := Bool.rec (motive := fun _ => Nat → Nat → Nat → Nat → AW → Option ORes) (fun _ _ _ _ _ => none) (fun b off i s A => ptrN b (Nat.add off (Nat.mul i s)) A) (b)
def idxA (a : Addr) : Nat → Nat → Nat → AW → Option ORes := Addr.rec (motive := fun _ => Nat → Nat → Nat → AW → Option ORes) (fun b off p i n s A => Option.rec (motive := fun _ => Nat → Nat → Nat → Nat → Nat → AW → Option ORes) (fun b off i n s A => idxB (Nat.ble (Nat.succ i) n) b off i s A) (fun _ _ _ _ _ _ _ => none) (p) b off i n s A) a
def idxP (a : Addr) (i : Nat) (n : Option Nat) (s : Nat) (A : AW) : Option ORes := Option.rec (motive := fun _ => Addr → Nat → Nat → AW → Option ORes) (fun _ _ _ _ => none) (fun n a i s A => idxA a i n s A) (n) a i s A
def idxS (a : Addr) (m i : Nat) (n : Option Nat) (s : Nat) (A : AW) : Option ORes := Option.rec (motive := fun _ => Addr → Nat → Nat → Nat → AW → Option ORes) (fun a m i s A => idxA a i m s A) (fun _ _ _ _ _ _ => none) (n) a m i s A
def idxV (v : V) : Nat → Option Nat → Nat → AW → Option ORes := Value.rec (motive_1 := fun _ => Nat → Option Nat → Nat → AW → Option ORes) (motive_2 := fun _ => Unit) (motive_3 := fun _ => Unit) (fun _ => fun _ _ _ _ => none) (fun _ _ => fun _ _ _ _ => none) (fun _ _ => fun _ _ _ _ => none) (fun _ _ _ => fun _ _ _ _ => none) (fun _ => fun _ _ _ _ => none) (fun p => Option.rec (motive := fun _ => Nat → Option Nat → Nat → AW → Option ORes) (fun _ _ _ _ => none) (fun a i n s A => idxP a i n s A) (p)) (fun p m _ => Option.rec (motive := fun _ => Nat → Nat → Option Nat → Nat → AW → Option ORes) (fun _ _ _ _ _ => none) (fun a m i n s A => idxS a m i n s A) (p) m) (fun _ => fun _ _ _ _ => none) (fun _ => fun _ _ _ _ => none) (fun _ _ _ _ _ => fun _ _ _ _ => none) (fun _ _ _ _ => none) (fun _ _ _ => fun _ _ _ _ => none) (fun _ _ _ _ => none) (fun _ _ => fun _ _ _ _ => none) (fun _ _ => fun _ _ _ _ => none) (fun _ _ => ()) () (fun _ _ _ _ => ()) (v)
def idxI (r : Option (Option Nat × Nat)) : V → Nat → AW → Option ORes := Option.rec (motive := fun _ => V → Nat → AW → Option ORes) (fun _ _ _ => none) (fun p => Prod.rec (motive := fun _ => V → Nat → AW → Option ORes) (fun n s v i A => idxV v i n s A) p) (r)
def aIndexAddrF (i : Option Nat) : Option (Option Nat × Nat) → V → AW → Option ORes := Option.rec (motive := fun _ => Option (Option Nat × Nat) → V → AW → Option ORes) (fun _ _ _ => none) (fun i r v A => idxI r v i A) (i)
def natI (n : Int) : Option Nat := Int.rec (motive := fun _ => Option Nat) (fun n => some n) (fun _ => none) n
def asIdxF (v : V) : Option Nat := Value.rec (motive_1 := fun _ => Option Nat) (motive_2 := fun _ => Unit) (motive_3 := fun _ => Unit) (fun _ => none) (fun _ n => natI n) (fun _ _ => none) (fun _ _ _ => none) (fun _ => none) (fun _ => none) (fun _ _ _ => none) (fun _ => none) (fun _ => none) (fun _ _ _ _ _ => none) (none) (fun _ _ _ => none) (none) (fun _ _ => none) (fun _ _ => none) (fun _ _ => ()) () (fun _ _ _ _ => ()) (v)
theorem asIdxF_eq (v : V) : asIdxF v = asIdx v := by
  cases v
  case int k n => cases n <;> rfl
  all_goals rfl
theorem aIndexAddrF_eq (E : Env) (A : AW) (ρ : Rho) (t : Nat) (x ix : Operand) : aIndexAddrF (asIdxF (ρ ix)) (elemI E t) (ρ x) A = aIndexAddr E A ρ t x ix := by
  rw [asIdxF_eq]
  unfold aIndexAddr elemI
  cases asIdx (ρ ix) with
  | none => rfl
  | some i =>
    cases hu : E.und t with
    | none => rfl
    | some d =>
      cases d
      case array n e =>
        simp only
        cases hs : E.size e with
        | none =>
          show none = _
          generalize ρ x = v
          cases v
          case pointer p =>
            cases p with
            | none => rfl
            | some a => obtain ⟨b, off, q⟩ := a; cases q <;> simp only [hs]
          all_goals rfl
        | some s =>
          show idxV (ρ x) i (some n) s A = _
          generalize ρ x = v
          cases v
          case pointer p =>
            cases p with
            | none => rfl
            | some a =>
              obtain ⟨b, off, q⟩ := a
              cases q with
              | some _ => rfl
              | none =>
                show idxB (Nat.blt i n) b off i s A = _
                simp only [hs]
                cases Nat.blt i n with
                | false => rfl
                | true => exact ptrN_eq _ _ _
          case slice p m c => cases p <;> rfl
          all_goals rfl
      case slice e =>
        simp only
        cases hs : E.size e with
        | none =>
          show none = _
          generalize ρ x = v
          cases v
          case slice p m c =>
            cases p with
            | none => rfl
            | some a => obtain ⟨b, off, q⟩ := a; cases q <;> simp only [hs]
          all_goals rfl
        | some s =>
          show idxV (ρ x) i none s A = _
          generalize ρ x = v
          cases v
          case pointer p => cases p <;> rfl
          case slice p m c =>
            cases p with
            | none => rfl
            | some a =>
              obtain ⟨b, off, q⟩ := a
              cases q with
              | some _ => rfl
              | none =>
                show idxB (Nat.blt i m) b off i s A = _
                simp only [hs]
                cases Nat.blt i m with
                | false => rfl
                | true => exact ptrN_eq _ _ _
          all_goals rfl
      all_goals rfl

def aPickF (c : V) : V → V → AW → Option ORes := Value.rec (motive_1 := fun _ => V → V → AW → Option ORes) (motive_2 := fun _ => Unit) (motive_3 := fun _ => Unit) (fun b => Bool.rec (motive := fun _ => V → V → AW → Option ORes) (fun _ b A => some (.val b A)) (fun a _ A => some (.val a A)) (b)) (fun _ _ => fun _ _ _ => none) (fun _ _ => fun _ _ _ => none) (fun _ _ _ => fun _ _ _ => none) (fun _ => fun _ _ _ => none) (fun _ => fun _ _ _ => none) (fun _ _ _ => fun _ _ _ => none) (fun _ => fun _ _ _ => none) (fun _ => fun _ _ _ => none) (fun _ _ _ _ _ => fun _ _ _ => none) (fun _ _ _ => none) (fun _ _ _ => fun _ _ _ => none) (fun _ _ _ => none) (fun _ _ => fun _ _ _ => none) (fun _ _ => fun _ _ _ => none) (fun _ _ => ()) () (fun _ _ _ _ => ()) (c)
theorem aPickF_eq (A : AW) (ρ : Rho) (c a b : Operand) : aPickF (ρ c) (ρ a) (ρ b) A = aPick A ρ c a b := by
  unfold aPick
  cases ρ c
  case bool x => cases x <;> rfl
  all_goals rfl
def getL (l : List V) (n : Nat) : Option V := List.rec (motive := fun _ => Nat → Option V) (fun _ => none) (fun a _ ih n => Nat.rec (motive := fun _ => V → (Nat → Option V) → Option V) (fun a _ => some a) (fun m _ _ ih => ih m) n a ih) l n
def aExtractF (v : V) : Nat → AW → Option ORes := Value.rec (motive_1 := fun _ => Nat → AW → Option ORes) (motive_2 := fun _ => Unit) (motive_3 := fun _ => Unit) (fun _ => fun _ _ => none) (fun _ _ => fun _ _ => none) (fun _ _ => fun _ _ => none) (fun _ _ _ => fun _ _ => none) (fun _ => fun _ _ => none) (fun _ => fun _ _ => none) (fun _ _ _ => fun _ _ => none) (fun _ => fun _ _ => none) (fun _ => fun _ _ => none) (fun _ _ _ _ _ => fun _ _ => none) (fun _ _ => none) (fun _ _ _ => fun _ _ => none) (fun _ _ => none) (fun _ _ => fun _ _ => none) (fun vs _ i A => valF (getL vs.toList i) A) (fun _ _ => ()) () (fun _ _ _ _ => ()) (v)
theorem getL_eq (l : List V) (n : Nat) : getL l n = lget l n := by
  induction l generalizing n with
  | nil => rfl
  | cons a l ih => cases n with
    | zero => rfl
    | succ n => exact ih n
theorem aExtractF_eq (A : AW) (ρ : Rho) (t : Operand) (i : Nat) : aExtractF (ρ t) i A = aExtract A ρ t i := by
  unfold aExtract
  cases ρ t
  case tuple vs => show valF (getL vs.toList i) A = _; rw [getL_eq, valF_eq]
  all_goals rfl

/-! ### Calls -/
def hasBody (E : Env) (g : Nat) : Option Bool := match E.fn g with
  | some fn => match fn.body with
    | some _ => some true
    | none => some false
  | none => none
def callFF (b : Option Bool) : Env → Nat → List V → AW → Option ORes := Option.rec (motive := fun _ => Env → Nat → List V → AW → Option ORes) (fun _ _ _ _ => none) (fun b => Bool.rec (motive := fun _ => Env → Nat → List V → AW → Option ORes) (fun E g args A => valF (E.nb g args) A) (fun _ g args A => some (.call g args A)) (b)) (b)
theorem callFF_eq (E : Env) (g : Nat) (args : List V) (A : AW) : callFF (hasBody E g) E g args A = callF E g args A := by
  unfold hasBody callF
  cases E.fn g with
  | none => rfl
  | some fn =>
    simp only
    cases fn.body with
    | none => exact valF_eq _ _
    | some c => rfl
def appF (l m : List V) : List V := List.rec (motive := fun _ => List V → List V) (fun m => m) (fun a _ ih m => a :: ih m) l m
def mapF (ρ : Rho) (l : List Operand) : List V := List.rec (motive := fun _ => Rho → List V) (fun _ => []) (fun a _ ih ρ => ρ a :: ih ρ) l ρ
theorem appF_eq (l m : List V) : appF l m = l ++ m := by
  induction l with
  | nil => rfl
  | cons a l ih => show a :: appF l m = _; rw [ih]; rfl
theorem mapF_eq (ρ : Rho) (l : List Operand) : mapF ρ l = l.map ρ := by
  induction l with
  | nil => rfl
  | cons a l ih => show ρ a :: mapF ρ l = _; rw [ih]; rfl
def callFn (fn : Fn) : Array V → Array V → Env → List V → AW → Option ORes := Fn.rec (motive := fun _ => Array V → Array V → Env → List V → AW → Option ORes) (fun g first captured E args A => callFF (hasBody E g) E g (appF (appF first.toList args) captured.toList) A) (fun _ => fun _ _ _ _ _ => none) (fun _ _ => fun _ _ _ _ _ => none) (fun _ _ _ _ => fun _ _ _ _ _ => none) (fun l first _ _ args A => some (.round l (appF first.toList args) A)) fn
def callVF (v : V) : Env → List V → AW → Option ORes := Value.rec (motive_1 := fun _ => Env → List V → AW → Option ORes) (motive_2 := fun _ => Unit) (motive_3 := fun _ => Unit) (fun _ => fun _ _ _ => none) (fun _ _ => fun _ _ _ => none) (fun _ _ => fun _ _ _ => none) (fun _ _ _ => fun _ _ _ => none) (fun _ => fun _ _ _ => none) (fun _ => fun _ _ _ => none) (fun _ _ _ => fun _ _ _ => none) (fun _ => fun _ _ _ => none) (fun _ => fun _ _ _ => none) (fun fn first captured _ _ E args A => callFn fn first captured E args A) (fun _ _ _ => none) (fun _ _ _ => fun _ _ _ => none) (fun _ _ _ => none) (fun _ _ => fun _ _ _ => none) (fun _ _ => fun _ _ _ => none) (fun _ _ => ()) () (fun _ _ _ _ => ()) (v)
theorem callVF_eq (E : Env) (f : V) (args : List V) (A : AW) : callVF f E args A = callV E f args A := by
  unfold callV
  cases f
  case func fn first captured =>
    cases fn
    case func g =>
      show callFF (hasBody E g) E g (appF (appF first.toList args) captured.toList) A = _
      rw [callFF_eq, appF_eq, appF_eq]
    case yield l => show some (ORes.round l (appF first.toList args) A) = _; rw [appF_eq]
    all_goals rfl
  all_goals rfl
def isLen (b : Builtin) (args : Array Operand) (ts : Array TypeId) : Option (Operand × Nat) := match b, args.toList, ts.toList with
  | .len, [x], t :: _ => some (x, t)
  | _, _, _ => none
def builtF (r : Option (Operand × Nat)) : Builtin → Array Operand → Array TypeId → Env → AW → Rho → Oper → Option ORes := Option.rec (motive := fun _ => Builtin → Array Operand → Array TypeId → Env → AW → Rho → Oper → Option ORes) (fun b args ts E A ρ o => aBuiltin E A ρ o b (args.toList.map ρ) ts.toList) (fun p _ _ _ E A ρ _ => aLenF (isSl E p.2) (ρ p.1) E A p.2) (r)
theorem builtF_eq (b : Builtin) (args : Array Operand) (ts : Array TypeId) (E : Env) (A : AW) (ρ : Rho) (o : Oper) :
    builtF (isLen b args ts) b args ts E A ρ o = aBuiltin E A ρ o b (args.toList.map ρ) ts.toList := by
  cases h : isLen b args ts with
  | none => rfl
  | some p =>
    obtain ⟨x, t⟩ := p
    show aLenF (isSl E t) (ρ x) E A t = _
    rw [aLenF_eq]
    unfold isLen at h
    split at h
    · rename_i h1 h2
      cases h
      rw [h1, h2]
      rfl
    · cases h
def calleeF (c : Callee) : Array Operand → Array TypeId → Env → AW → Rho → Oper → Option ORes := Callee.rec (motive := fun _ => Array Operand → Array TypeId → Env → AW → Rho → Oper → Option ORes) (fun f args _ E A ρ _ => callVF (ρ f) E (mapF ρ args.toList) A) (fun _ _ => fun _ _ _ _ _ _ => none) (fun b args ts E A ρ o => builtF (isLen b args ts) b args ts E A ρ o) c
theorem calleeF_eq (c : Call) (E : Env) (A : AW) (ρ : Rho) (o : Oper) : calleeF c.callee c.args c.argTypes E A ρ o = aCall E A ρ o c := by
  unfold aCall
  cases c.callee with
  | value f => show callVF (ρ f) E (mapF ρ c.args.toList) A = _; rw [callVF_eq, mapF_eq]
  | invoke r m => rfl
  | builtin b => exact builtF_eq ..


end
end Ax

/-
The abstract run, part 32: the run with closed arms, and that it is the run.
-/
namespace Ax
open Go
set_option linter.unusedSimpArgs false
set_option linter.unusedVariables false
noncomputable section
def nArm {α : Type} : Env → AW → (Operand → V) → Oper → Option α := fun _ _ _ _ => none
def aopF (E : Env) (A : AW) (ρ : Operand → V) (o : Oper) : Option ORes :=
  Op.rec (motive := fun _ => Env → AW → (Operand → V) → Oper → Option ORes)
    (fun x _ A ρ _ => some (.val (ρ x) A))
    (fun x _ A ρ _ => some (.val (ρ x) A))
    (fun c a b _ A ρ _ => aPickF (ρ c) (ρ a) (ρ b) A)
    (fun e E A _ _ => aAlloc E A e)
    (fun e x E A ρ _ => newCells E A e (ρ x))
    (fun t ps E A ρ _ => aBuild E A ρ t ps)
    (fun t len ps E A ρ _ => aBuildSlice E A ρ t len ps)
    (fun _ _ _ _ => nArm)
    (fun t x E A ρ _ => aLoadF (ρ x) E A t)
    (fun t x y E A ρ _ => aStoreF (ρ x) (E.size t) (cellsO (ρ y)) A)
    (fun _ => nArm)
    (fun _ => nArm)
    (fun x _ A ρ _ => aNilCheck A ρ x)
    (fun op t x y _ E A ρ o => aBinOpF (ρ x) E A ρ o op t x y)
    (fun _ _ _ E A ρ o => pureOp E A ρ o)
    (fun s d x E A ρ o => aConvertF (convK E s d) (ρ x) E A ρ o s d x)
    (fun _ _ => nArm)
    (fun t x E A ρ _ => aMakeInterface E A ρ t x)
    (fun fn a b _ A ρ _ => aMakeFunc A ρ fn a b)
    (fun t r E A _ _ => aMakeMap E A t r)
    (fun _ _ => nArm)
    (fun t l c E A ρ _ => aMakeSlice E A ρ t l c)
    (fun t x lo hi mx E A ρ o => aSlice E A ρ o t x lo hi mx)
    (fun s x f E A ρ _ => aFieldAddrF (fOff E s f) (ρ x) A)
    (fun t x f E A ρ _ => aField E A ρ t x f)
    (fun t x ix E A ρ _ => aIndexAddrF (asIdxF (ρ ix)) (elemI E t) (ρ x) A)
    (fun t x ix E A ρ _ => aIndex E A ρ t x ix)
    (fun t x k ok E A ρ _ => aLookup E A ρ t x k ok)
    (fun t m k x E A ρ _ => aMapUpdate E A ρ t m k x)
    (fun _ _ _ => nArm)
    (fun _ _ _ _ => nArm)
    (fun t x E A ρ _ => aRange E A ρ t x)
    (fun it s _ A ρ _ => aNext A ρ it s)
    (fun it _ A ρ _ => aEntry A ρ it)
    (fun _ _ _ _ => nArm)
    (fun t i _ A ρ _ => aExtractF (ρ t) i A)
    (fun c E A ρ o => calleeF c.callee c.args c.argTypes E A ρ o)
    (fun _ => nArm)
    (fun _ => nArm)
    (fun _ => nArm)
    (fun _ _ => nArm)
    (fun _ _ _ => nArm)
    (fun _ _ => nArm)
    o.op E A ρ o
theorem aopF_eq (E : Env) (A : AW) (ρ : Operand → V) (o : Oper) : aopF E A ρ o = aop E A ρ o := by
  obtain ⟨dst, op, type, pos, after, guard⟩ := o
  cases op
  case pick c a b => exact aPickF_eq ..
  case load t x => exact aLoadF_eq ..
  case store t x y => exact aStoreF_eq ..
  case binOp bop t x y u => exact aBinOpF_eq E A ρ _ bop t x y
  case convert s d x => exact aConvertF_eq E A ρ _ s d x
  case fieldAddr s x f => exact aFieldAddrF_eq ..
  case indexAddr t x ix => exact aIndexAddrF_eq ..
  case extract t i => exact aExtractF_eq ..
  case call c => exact calleeF_eq c E A ρ _
  all_goals rfl

/-! ### One operation -/
def oneRetF (r : Option Res) : Option (V × AW) :=
  Option.rec (motive := fun _ => Option (V × AW)) none (fun r => Res.rec (motive := fun _ => Option (V × AW)) (fun _ _ _ => none) (fun v A => some (v, A)) r) r
def oneOpF (E : Env) (ih : Task → Option Res) (f : Fr) (A : AW) (o : Oper) : Option (V × AW) :=
  Option.rec (motive := fun _ => (Task → Option Res) → Option (V × AW)) (fun _ => none)
    (fun r => ORes.rec (motive := fun _ => (Task → Option Res) → Option (V × AW))
      (fun v A _ => some (v, A))
      (fun g args A ih => oneRetF (ih (.call g args A)))
      (fun l args A ih => oneRetF (ih (.round l args A))) r) (aopF E A (evalF E.ng f) o) ih
theorem oneOpF_eq (E : Env) (ih : Task → Option Res) (f : Fr) (A : AW) (o : Oper) : oneOpF E ih f A o = oneOp E ih f A o := by
  unfold oneOpF oneOp
  rw [aopF_eq, evalF_eq]
  cases aop E A (f.eval E.ng) o with
  | none => rfl
  | some r =>
    cases r with
    | val v A' => rfl
    | call g args A' =>
      show oneRetF (ih (.call g args A')) = _
      unfold oneRetF
      cases h : ih (.call g args A') with
      | none => simp only [h]
      | some r => cases r <;> simp only [h]
    | round g args A' =>
      show oneRetF (ih (.round g args A')) = _
      unfold oneRetF
      cases h : ih (.round g args A') with
      | none => simp only [h]
      | some r => cases r <;> simp only [h]

def wantedF (ops : List Oper) (f : Fr) (o : Oper) : Option Bool :=
  Option.rec (motive := fun _ => List Oper → Fr → Option Bool) (fun _ _ => some true) (fun g ops f => guardA ops f g.1 g.2) o.guard ops f
theorem wantedF_eq (ops : List Oper) (f : Fr) (o : Oper) : wantedF ops f o = wantedA ops f o := by
  unfold wantedF wantedA
  cases o.guard <;> rfl

abbrev RO := Env → (Task → Option Res) → List Oper → Fr → AW → Option (Fr × AW)
def roV (r : Option (V × AW)) : RO → Oper → Env → (Task → Option Res) → List Oper → Fr → Option (Fr × AW) :=
  Option.rec (motive := fun _ => RO → Oper → Env → (Task → Option Res) → List Oper → Fr → Option (Fr × AW))
    (fun _ _ _ _ _ _ => none)
    (fun p => Prod.rec (motive := fun _ => RO → Oper → Env → (Task → Option Res) → List Oper → Fr → Option (Fr × AW))
      (fun v A rest o E ih all f => rest E ih all (putFr f o.dst v) A) p) r
def roW (w : Option Bool) : RO → Oper → RO :=
  Option.rec (motive := fun _ => RO → Oper → RO) (fun _ _ _ _ _ _ _ => none)
    (fun b => Bool.rec (motive := fun _ => RO → Oper → RO)
      (fun rest o E ih all f A => rest E ih all (putFr f o.dst undef) A)
      (fun rest o E ih all f A => roV (oneOpF E ih f A o) rest o E ih all f) b) w
def runOpsF (E : Env) (ih : Task → Option Res) (all l : List Oper) (f : Fr) (A : AW) : Option (Fr × AW) :=
  List.rec (motive := fun _ => RO) (fun _ _ _ f A => some (f, A)) (fun o _ rest E ih all f A => roW (wantedF all f o) rest o E ih all f A) l E ih all f A
theorem runOpsF_cons (E : Env) (ih : Task → Option Res) (all : List Oper) (o : Oper) (r : List Oper) (f : Fr) (A : AW) :
    runOpsF E ih all (o :: r) f A = roW (wantedF all f o) (fun E ih all f A => runOpsF E ih all r f A) o E ih all f A := rfl
theorem runOpsF_eq (E : Env) (ih : Task → Option Res) (all l : List Oper) (f : Fr) (A : AW) : runOpsF E ih all l f A = runOps E ih all l f A := by
  induction l generalizing f A with
  | nil => rfl
  | cons o r ihl =>
    rw [runOpsF_cons, wantedF_eq]
    simp only [runOps, ← putFr_eq]
    cases wantedA all f o with
    | none => rfl
    | some b =>
      cases b with
      | false => exact ihl (putFr f o.dst undef) A
      | true =>
        show roV (oneOpF E ih f A o) (fun E ih all f A => runOpsF E ih all r f A) o E ih all f = _
        rw [oneOpF_eq]
        simp only
        cases oneOp E ih f A o with
        | none => rfl
        | some p => exact ihl (putFr f o.dst p.1) p.2

/-! ### A region whose order is drawn -/
abbrev PO := Env → List Oper → Nat → Fr → AW → List Rec → Option DS
def poKeep (r : Option DS) (x : Row) : Option DS :=
  Option.rec (motive := fun _ => Row → Option DS) (fun _ => none) (fun s => DS.rec (motive := fun _ => Row → Option DS) (fun p d f A rs x => some ⟨x :: p, d, f, A, rs⟩) s) r x
def poN (y : Option Blk) : V → AW → PO → Row → PO :=
  Option.rec (motive := fun _ => V → AW → PO → Row → PO)
    (fun _ _ _ _ _ _ _ _ _ _ => none)
    (fun y v A' rest x E all d f A rs => rest E all (Nat.lor d (Nat.pow 2 x.1)) (putFr f x.2.1.dst v) A' (.new x.1 x.2.1 f A.n y :: rs)) y
def poA (b : Bool) : V → AW → PO → Row → PO :=
  Bool.rec (motive := fun _ => V → AW → PO → Row → PO)
    (fun v _ rest x E all d f A rs => rest E all (Nat.lor d (Nat.pow 2 x.1)) (putFr f x.2.1.dst v) A (.val x.1 x.2.1 f v :: rs))
    (fun v A' rest x E all d f A rs => poN (getB A' A.n) v A' rest x E all d f A rs) b
def poV (r : Option ORes) : PO → Row → PO :=
  Option.rec (motive := fun _ => PO → Row → PO) (fun _ _ _ _ _ _ _ _ => none)
    (fun r => ORes.rec (motive := fun _ => PO → Row → PO)
      (fun v A' rest x E all d f A rs => poA (allocOp x.2.1.op) v A' rest x E all d f A rs)
      (fun _ _ _ _ _ _ _ _ _ _ _ => none)
      (fun _ _ _ _ _ _ _ _ _ _ _ => none) r) r
def poW (w : Option Bool) : PO → Row → PO :=
  Option.rec (motive := fun _ => PO → Row → PO) (fun _ _ _ _ _ _ _ _ => none)
    (fun b => Bool.rec (motive := fun _ => PO → Row → PO)
      (fun rest x E all d f A rs => rest E all (Nat.lor d (Nat.pow 2 x.1)) (putFr f x.2.1.dst undef) A (.no x.1 x.2.1 f :: rs))
      (fun rest x E all d f A rs => poV (aopF E A (evalF E.ng f) x.2.1) rest x E all d f A rs) b) w
def poS (b : Bool) : PO → Row → PO :=
  Bool.rec (motive := fun _ => PO → Row → PO)
    (fun rest x E all d f A rs => poKeep (rest E all d f A rs) x)
    (fun rest x E all d f A rs => poW (wantedF all f x.2.1) rest x E all d f A rs) b
def passF (E : Env) (all : List Oper) (rows : List Row) (d : Nat) (f : Fr) (A : AW) (rs : List Rec) : Option DS :=
  List.rec (motive := fun _ => PO) (fun _ _ d f A rs => some ⟨[], d, f, A, rs⟩)
    (fun x _ rest E all d f A rs => poS (!(chainOp x.2.1.op) && sub x.2.2 d) rest x E all d f A rs) rows E all d f A rs
theorem passF_cons (E : Env) (all : List Oper) (x : Row) (rows : List Row) (d : Nat) (f : Fr) (A : AW) (rs : List Rec) :
    passF E all (x :: rows) d f A rs = poS (!(chainOp x.2.1.op) && sub x.2.2 d) (fun E all d f A rs => passF E all rows d f A rs) x E all d f A rs := rfl
theorem passF_eq (E : Env) (all : List Oper) (rows : List Row) (d : Nat) (f : Fr) (A : AW) (rs : List Rec) : passF E all rows d f A rs = passD E all rows d f A rs := by
  induction rows generalizing d f A rs with
  | nil => rfl
  | cons x r ihl =>
    obtain ⟨i, o, m⟩ := x
    rw [passF_cons]
    simp only [passD, ← putFr_eq, ← evalF_eq, ← getB_eq]
    cases (!(chainOp o.op) && sub m d) with
    | false =>
      show poKeep (passF E all r d f A rs) (i, o, m) = _
      rw [ihl]
      simp only
      cases passD E all r d f A rs <;> rfl
    | true =>
      show poW (wantedF all f o) (fun E all d f A rs => passF E all r d f A rs) (i, o, m) E all d f A rs = _
      rw [wantedF_eq]
      simp only
      cases wantedA all f o with
      | none => rfl
      | some b =>
        cases b with
        | false => exact ihl (Nat.lor d (Nat.pow 2 i)) (putFr f o.dst undef) A (.no i o f :: rs)
        | true =>
          show poV (aopF E A (evalF E.ng f) o) (fun E all d f A rs => passF E all r d f A rs) (i, o, m) E all d f A rs = _
          rw [aopF_eq]
          simp only
          cases aop E A (evalF E.ng f) o with
          | none => rfl
          | some r' =>
            cases r' with
            | val v A' =>
              show poA (allocOp o.op) v A' (fun E all d f A rs => passF E all r d f A rs) (i, o, m) E all d f A rs = _
              simp only
              cases allocOp o.op with
              | false => exact ihl (Nat.lor d (Nat.pow 2 i)) (putFr f o.dst v) A (.val i o f v :: rs)
              | true =>
                show poN (getB A' A.n) v A' (fun E all d f A rs => passF E all r d f A rs) (i, o, m) E all d f A rs = _
                simp only
                cases getB A' A.n with
                | none => rfl
                | some y => exact ihl (Nat.lor d (Nat.pow 2 i)) (putFr f o.dst v) A' (.new i o f A.n y :: rs)
            | call g args A' => rfl
            | round g args A' => rfl

abbrev RC := Env → AW → Nat → Bool
def rcB (b : Bool) : RC → RC := Bool.rec (motive := fun _ => RC → RC) (fun _ _ _ _ => false) (fun rest E A sure => rest E A sure) b
def rcV (r : Option ORes) : V → RC → RC :=
  Option.rec (motive := fun _ => V → RC → RC) (fun _ _ _ _ _ => false)
    (fun r => ORes.rec (motive := fun _ => V → RC → RC) (fun v' _ v rest => rcB (veq 8 v v') rest) (fun _ _ _ _ _ _ _ _ => false) (fun _ _ _ _ _ _ _ _ => false) r) r
def rcN (y : Option Blk) : Blk → RC → RC :=
  Option.rec (motive := fun _ => Blk → RC → RC) (fun _ _ _ _ _ => false) (fun y x rest => rcB (blkSame x y) rest) y
def rcT (b : Bool) : Oper → Fr → V → RC → RC :=
  Bool.rec (motive := fun _ => Oper → Fr → V → RC → RC) (fun o f v rest E A sure => rcV (aopF E A (evalF E.ng f) o) v rest E A sure) (fun _ _ _ rest => rest) b
def rcU (b : Bool) : Nat → Blk → RC → RC :=
  Bool.rec (motive := fun _ => Nat → Blk → RC → RC) (fun b x rest E A sure => rcN (getB A b) x rest E A sure) (fun _ _ rest => rest) b
def rcX (x : Rec) : RC → RC :=
  Rec.rec (motive := fun _ => RC → RC)
    (fun i o f v rest E A sure => rcT (tb sure i) o f v rest E A sure)
    (fun i _ _ b x rest E A sure => rcU (tb sure i) b x rest E A sure)
    (fun _ _ _ rest => rest) x
def recheckF (E : Env) (A : AW) (sure : Nat) (l : List Rec) : Bool :=
  List.rec (motive := fun _ => RC) (fun _ _ _ => true) (fun x _ rest => rcX x rest) l E A sure
theorem recheckF_cons (E : Env) (A : AW) (sure : Nat) (x : Rec) (l : List Rec) : recheckF E A sure (x :: l) = rcX x (fun E A sure => recheckF E A sure l) E A sure := rfl
theorem recheckF_eq (E : Env) (A : AW) (sure : Nat) (l : List Rec) : recheckF E A sure l = recheck E A sure l := by
  induction l with
  | nil => rfl
  | cons x r ihl =>
    rw [recheckF_cons]
    cases x with
    | no i o f => simp only [recheck]; exact ihl
    | val i o f v =>
      show rcT (tb sure i) o f v (fun E A sure => recheckF E A sure r) E A sure = _
      simp only [recheck, ← evalF_eq, ← getB_eq]
      cases tb sure i with
      | true => exact ihl
      | false =>
        show rcV (aopF E A (evalF E.ng f) o) v (fun E A sure => recheckF E A sure r) E A sure = _
        rw [aopF_eq]
        simp only
        cases aop E A (evalF E.ng f) o with
        | none => rfl
        | some r' =>
          cases r' with
          | val v' A' =>
            show rcB (veq 8 v v') (fun E A sure => recheckF E A sure r) E A sure = _
            simp only
            cases veq 8 v v' with
            | true => exact ihl
            | false => rfl
          | call => rfl
          | round => rfl
    | new i o f b x =>
      show rcU (tb sure i) b x (fun E A sure => recheckF E A sure r) E A sure = _
      simp only [recheck, ← evalF_eq, ← getB_eq]
      cases tb sure i with
      | true => exact ihl
      | false =>
        show rcN (getB A b) x (fun E A sure => recheckF E A sure r) E A sure = _
        simp only
        cases getB A b with
        | none => rfl
        | some y =>
          show rcB (blkSame x y) (fun E A sure => recheckF E A sure r) E A sure = _
          simp only
          cases blkSame x y with
          | true => exact ihl
          | false => rfl

def runDF (E : Env) (ih : Task → Option Res) (all : List Oper) : Nat → List Row → Nat → Nat → Fr → AW → List Rec → Option (Fr × AW)
  | 0, _, _, _, _, _, _ => none
  | n + 1, p, d, s, f, A, rs => match passF E all p d f A rs with
    | some ⟨p', d', f', A', rs'⟩ => match recheckF E A' s rs' with
      | true => match p' with
        | [] => some (f', A')
        | (c, o, m) :: r => match sub m d' && chainOp o.op with
          | true => match wantedF all f' o with
            | some true => match oneOpF E ih f' A' o with
              | some (v, A2) => runDF E ih all n r (Nat.lor d' (Nat.pow 2 c)) m (putFr f' o.dst v) A2 rs'
              | none => none
            | some false => runDF E ih all n r (Nat.lor d' (Nat.pow 2 c)) m (putFr f' o.dst undef) A' rs'
            | none => none
          | false => none
      | false => none
    | none => none
theorem runDF_eq (E : Env) (ih : Task → Option Res) (all : List Oper) (n : Nat) (p : List Row) (d s : Nat) (f : Fr) (A : AW) (rs : List Rec) :
    runDF E ih all n p d s f A rs = runD E ih all n p d s f A rs := by
  induction n generalizing p d s f A rs with
  | zero => rfl
  | succ n ihn =>
    simp only [runDF, runD, passF_eq, recheckF_eq, wantedF_eq, oneOpF_eq, ihn, putFr_eq]
    rfl
def runRegionF (E : Env) (ih : Task → Option Res) (ops : Array Oper) (draw : Bool) (f : Fr) (A : AW) : Option (Fr × AW) :=
  Bool.rec (motive := fun _ => Env → (Task → Option Res) → Array Oper → Fr → AW → Option (Fr × AW))
    (fun E ih ops f A => runOpsF E ih ops.toList ops.toList f A)
    (fun E ih ops f A => Option.rec (motive := fun _ => Env → (Task → Option Res) → Array Oper → Fr → AW → Option (Fr × AW)) (fun _ _ _ _ _ => none)
      (fun rows E ih ops f A => runDF E ih ops.toList (Nat.succ ops.toList.length) rows 0 0 f A []) (regRows ops.toList) E ih ops f A)
    draw E ih ops f A
theorem runRegionF_eq (E : Env) (ih : Task → Option Res) (ops : Array Oper) (draw : Bool) (f : Fr) (A : AW) : runRegionF E ih ops draw f A = runRegion E ih ops draw f A := by
  cases draw with
  | false => exact runOpsF_eq ..
  | true =>
    unfold runRegionF runRegion
    simp only
    cases regRows ops.toList with
    | none => rfl
    | some rows => exact runDF_eq ..

/-! ### The statements -/
abbrev CArm := Env → (Task → Option Res) → Option Nat → Fr → AW → Option Res
def condF (v : V) (a b : Code) (ih : Task → Option Res) (ro : Option Nat) (f : Fr) (A : AW) : Option Res :=
  match v with
  | .bool t => match t with
    | true => ih (.code ro a f A)
    | false => ih (.code ro b f A)
  | _ => none
def body1F (E : Env) (ih : Task → Option Res) (ro : Option Nat) (c : Code) (f : Fr) (A : AW) : Option Res :=
  Code.rec (motive := fun _ => CArm)
    (fun _ _ _ f A => some (.ex .normal f A))
    (fun _ ops draw E ih _ f A => asEx (runRegionF E ih ops draw f A))
    (fun a b _ _ _ ih ro f A => cSeq ih ro b (ih (.code ro a f A)))
    (fun c a b _ _ E ih ro f A => condF (evalF E.ng f c) a b ih ro f A)
    (fun id c _ _ ih ro f A => cBlock id (ih (.code ro c f A)))
    (fun c _ _ ih ro f A => cSeq ih ro (.loop c) (ih (.code ro c f A)))
    (fun g ps as bd _ _ E ih ro f A => rangeA E ih ro g ps as bd f A)
    (fun id _ _ _ f A => some (.ex (.exit id) f A))
    (fun b _ _ ih ro f A => ih (.scope ro b b f A))
    (fun _ _ _ _ f A => some (.ex .normal f A))
    (fun l _ _ _ f A => some (.ex (.goto l) f A))
    (fun _ _ _ f A => some (.ex .ret f A))
    (fun _ _ _ _ _ _ => none)
    c E ih ro f A
theorem body1F_eq (E : Env) (ih : Task → Option Res) (ro : Option Nat) (c : Code) (f : Fr) (A : AW) : body1F E ih ro c f A = body1 E ih ro c f A := by
  cases c
  case region id ops draw => show asEx (runRegionF E ih ops draw f A) = asEx (runRegion E ih ops draw f A); rw [runRegionF_eq]
  case cond c a b => show condF (evalF E.ng f c) a b ih ro f A = _; rw [evalF_eq]; rfl
  all_goals rfl
def bodyF (E : Env) (ih : Task → Option Res) (t : Task) : Option Res :=
  Task.rec (motive := fun _ => Env → (Task → Option Res) → Option Res)
    (fun ro c f A E ih => body1F E ih ro c f A)
    (fun ro b c f A _ ih => cScope ih ro b (ih (.code ro c f A)))
    (fun g args A E ih => callA E ih g args A)
    (fun l args A _ ih => roundA ih l args A)
    t E ih
theorem bodyF_eq (E : Env) (ih : Task → Option Res) (t : Task) : bodyF E ih t = body E ih t := by
  cases t
  case code => exact body1F_eq ..
  all_goals rfl
def evF (E : Env) (n : Nat) : Task → Option Res := Nat.rec (motive := fun _ => Task → Option Res) (fun _ => none) (fun _ ih => bodyF E ih) n
theorem evF_eq (E : Env) (n : Nat) : evF E n = ev E n := by
  induction n with
  | zero => rfl
  | succ n ihn =>
    funext t
    show bodyF E (evF E n) t = body E (ev E n) t
    rw [bodyF_eq, ihn]

end
end Ax

/-
The abstract run, part 33: what a closed call gives, as a contract in whatever abstract world.
-/
namespace Ax
open Go

def plainL : List V → Bool
  | [] => true
  | v :: r => match plainV v with
    | true => plainL r
    | false => false
theorem LRel.plain_eq {cx : Cx} : ∀ {l l' : List V}, plainL l = true → LRel cx l l' → l = l' := by
  intro l
  induction l with
  | nil =>
    intro l' _ h
    cases l' with
    | nil => rfl
    | cons b r => exact absurd h.1 (by simp)
  | cons a l ih =>
    intro l' hp h
    unfold plainL at hp
    cases ha : plainV a with
    | false => simp [ha] at hp
    | true =>
      simp only [ha] at hp
      cases l' with
      | nil => exact absurd h.1 (by simp)
      | cons b r =>
        have h0 := VRel.eq_plain ha (h.2 0 a b rfl rfl)
        have hr : LRel cx l r := ⟨by have := h.1; simpa using this, fun i x y hx hy => h.2 (i + 1) x y hx hy⟩
        rw [h0, ih hp hr]
theorem LRel.of_plain (cx : Cx) : ∀ {l : List V}, plainL l = true → LRel cx l l := by
  intro l
  induction l with
  | nil => intro _; exact ⟨rfl, fun i x y hx => by simp at hx⟩
  | cons a l ih =>
    intro hp
    unfold plainL at hp
    cases ha : plainV a with
    | false => simp [ha] at hp
    | true =>
      simp only [ha] at hp
      refine ⟨rfl, fun i x y hx hy => ?_⟩
      cases i with
      | zero => simp at hx hy; subst hx; subst hy; exact VRel.plain ha
      | succ i => exact (ih hp).2 i x y hx hy
/-- A CALL ON WHAT HOLDS NO ADDRESS, whose run from the start is known, gives the same in whatever world; and leaves there what there was. -/
theorem closed_call {P : Program} {E E' : Env} (hE : EnvOk P E) (hX : ExtOk P E) {k g n : Nat} {args : List V} {v : V} {A' : AW} (h : ev E k (.call g args (startAW n)) = some (.ret v A'))
    (hargs : plainL args = true) (hv : plainV v = true) (hn : n = E.ng) (hn' : n ≤ 65536) (hng : E'.ng = E.ng) (A : AW) : CallOk P E' g args A v A := by
  subst hn
  have hc : CallOk P E g args (startAW E.ng) v A' := ev_ok hE hX k _ _ h
  intro cx w args' hR hG hL hT
  have hsz : E.ng ≤ w.heap.size := by
    cases hz : E.ng with
    | zero => omega
    | succ m =>
      have := hR.rng m m (hG m (by omega))
      omega
  obtain rfl : args' = args.toArray := by
    have := LRel.plain_eq hargs hL
    rw [this]
  have hstart := hc (startCx E.ng) w args.toArray (start_rel hn' hsz) (fun b hb => by unfold startCx; simp only; rw [if_pos (by omega)]) (by simpa using LRel.of_plain _ hargs) (start_top _)
  refine CallsIn.mono hstart ?_
  rintro e w' ⟨v', rfl, cx', hst, hvr⟩
  refine ⟨v', rfl, cx, ?_, ?_⟩
  · have hsame : ∀ r, r < w.heap.size → w'.heap[r]? = w.heap[r]? := fun r hr => hst.frame r hr fun b hb _ => start_get hn' hb
    exact {
      ext := .refl _
      out := fun _ _ => ⟨rfl, rfl⟩
      le := Nat.le_refl _
      rel := ⟨fun b x r hx hm => by
        obtain ⟨o, h1, h2⟩ := hR.blk b x r hx hm
        exact ⟨o, (hsame r (hR.rng b r hm)).trans h1, h2⟩, hR.inj, fun b r hm => Nat.lt_of_lt_of_le (hR.rng b r hm) hst.size, hR.top, hR.has⟩
      size := hst.size
      frame := fun r hr _ => hsame r hr
      new := fun b r h1 h2 _ => absurd h2 (by omega)
      dead := fun _ _ h => h
      os := hst.os
      tape := hst.tape
      output := hst.output }
  · rw [← VRel.eq_plain hv hvr]
    exact VRel.plain hv
end Ax

/-
The abstract run, part 34: functions without a body, (*strings.Builder).grow, and a table of closed calls, as what an environment bears; of no program.
-/
namespace Ax
open Go

/-! ### Functions without a body -/
def countB (b : Nat) : List UInt8 → Nat
  | [] => 0
  | x :: r => match Nat.beq x.toNat b with
    | true => Nat.succ (countB b r)
    | false => countB b r
def findB (b : Nat) : List UInt8 → Nat → Option Nat
  | [], _ => none
  | x :: r, i => match Nat.beq x.toNat b with
    | true => some i
    | false => findB b r (Nat.succ i)
noncomputable def nbCount (args : List V) : Option V := match args with
  | [.string s, .int .u8 (.ofNat b)] => match Nat.blt b 256 with
    | true => forceN (countB b s.data.toList) fun n => some (.int .i64 (.ofNat n))
    | false => none
  | _ => none
noncomputable def nbFind (args : List V) : Option V := match args with
  | [.string s, .int .u8 (.ofNat b)] => match Nat.blt b 256 with
    | true => match findB b s.data.toList 0 with
      | some i => forceN i fun n => some (.int .i64 (.ofNat n))
      | none => some (.int .i64 (.negSucc 0))
    | false => none
  | _ => none
noncomputable def nbThree (ne cs ib : Nat) (g : Nat) (args : List V) : Option V := match Nat.beq g ne with
  | true => match args with
    | [v] => some v
    | _ => none
  | false => match Nat.beq g cs with
    | true => nbCount args
    | false => match Nat.beq g ib with
      | true => nbFind args
      | false => none
theorem beq_byte {x : UInt8} {b : Nat} (hb : b < 256) : (x == (Int.ofNat b).toNat.toUInt8) = Nat.beq x.toNat b := by
  have h : (Int.ofNat b).toNat.toUInt8.toNat = b := by
    show (b.toUInt8).toNat = b
    simp [Nat.toUInt8]
    omega
  rw [Bool.eq_iff_iff, beq_iff_eq, Nat.beq_eq]
  constructor
  · intro e; rw [e]; exact h
  · intro e; exact UInt8.toNat_inj.1 (e.trans h.symm)
theorem countB_eq {b : Nat} (hb : b < 256) : ∀ l : List UInt8, Lib.countByte l (Int.ofNat b).toNat.toUInt8 = countB b l := by
  intro l
  induction l with
  | nil => rfl
  | cons x r ih =>
    unfold Lib.countByte at ih ⊢
    rw [List.count_cons, ih, beq_byte hb, show countB b (x :: r) = (match Nat.beq x.toNat b with | true => Nat.succ (countB b r) | false => countB b r) from rfl]
    cases Nat.beq x.toNat b <;> simp
theorem findB_eq {b : Nat} (hb : b < 256) : ∀ (l : List UInt8) (i : Nat), findB b l i = (if Lib.indexByte l (Int.ofNat b).toNat.toUInt8 = -1 then none else some (i + (Lib.indexByte l (Int.ofNat b).toNat.toUInt8).toNat)) := by
  intro l
  induction l with
  | nil => intro i; simp [findB, Lib.indexByte]
  | cons x r ih =>
    intro i
    unfold findB Lib.indexByte
    rw [beq_byte hb]
    have hg := Lib.indexByte_ge r (Int.ofNat b).toNat.toUInt8
    cases Nat.beq x.toNat b with
    | true => simp
    | false =>
      simp only [Bool.false_eq_true, if_false]
      rw [ih]
      by_cases h : Lib.indexByte r (Int.ofNat b).toNat.toUInt8 = -1
      · rw [if_pos h, h]; rfl
      · rw [if_neg h]
        have hne : (Lib.indexByte r (Int.ofNat b).toNat.toUInt8 == -1) = false := by simpa using h
        rw [hne]
        simp only [Bool.false_eq_true, if_false]
        rw [if_neg (by omega)]
        congr 1
        omega
theorem nbThree_ok {P : Program} {ne cs ib : Nat}
    (h1 : ∀ x w, (callFunc ne #[x]).run P w = .ok (.value x) w)
    (h2 : ∀ (s : ByteArray) (c : Int) w, (callFunc cs #[.string s, .int .u8 c]).run P w = .ok (.value (.int .i64 (Lib.countByte s.data.toList c.toNat.toUInt8))) w)
    (h3 : ∀ (s : ByteArray) (c : Int) w, (callFunc ib #[.string s, .int .u8 c]).run P w = .ok (.value (.int .i64 (Lib.indexByte s.data.toList c.toNat.toUInt8))) w) :
    ∀ g args v, nbThree ne cs ib g args = some v → ∀ (cx : Cx) (args' : Array V), LRel cx args args'.toList → ∃ v', VRel cx v v' ∧ ∀ w, (callFunc g args').run P w = .ok (.value v') w := by
  intro g args v h cx args' hL
  unfold nbThree at h
  have one : ∀ {x : V}, args = [x] → ∃ x', args' = #[x'] ∧ VRel cx x x' := by
    rintro x rfl
    obtain ⟨l⟩ := args'
    match l, hL with
    | [x'], hL => exact ⟨x', rfl, hL.2 0 _ _ rfl rfl⟩
    | [], hL => exact absurd hL.1 (by simp)
    | _ :: _ :: _, hL => exact absurd hL.1 (by simp)
  have two : ∀ {s : ByteArray} {c : Int}, args = [.string s, .int .u8 c] → args' = #[.string s, .int .u8 c] := by
    rintro s c rfl
    obtain ⟨l⟩ := args'
    match l, hL with
    | [x', y'], hL =>
      have e1 := hL.2 0 _ _ rfl rfl
      have e2 := hL.2 1 _ _ rfl rfl
      cases e1; cases e2
      rfl
    | [], hL => exact absurd hL.1 (by simp)
    | [_], hL => exact absurd hL.1 (by simp)
    | _ :: _ :: _ :: _, hL => exact absurd hL.1 (by simp)
  split at h
  · rename_i hg
    obtain rfl := Nat.eq_of_beq_eq_true hg
    split at h
    · cases h
      obtain ⟨x', rfl, hx⟩ := one rfl
      exact ⟨x', hx, h1 x'⟩
    · cases h
  · split at h
    · rename_i hg
      obtain rfl := Nat.eq_of_beq_eq_true hg
      unfold nbCount at h
      split at h
      · rename_i s b
        split at h
        · rename_i hb
          have hb : b < 256 := by simpa using hb
          rw [forceN_eq] at h
          cases h
          rw [two rfl]
          refine ⟨_, .int _ _, fun w => ?_⟩
          rw [h2, countB_eq hb]
          rfl
        · cases h
      · cases h
    · split at h
      · rename_i hg
        obtain rfl := Nat.eq_of_beq_eq_true hg
        unfold nbFind at h
        split at h
        · rename_i s b
          split at h
          · rename_i hb
            have hb : b < 256 := by simpa using hb
            rw [findB_eq hb] at h
            rw [two rfl]
            have hge := Lib.indexByte_ge s.data.toList (Int.ofNat b).toNat.toUInt8
            by_cases hi : Lib.indexByte s.data.toList (Int.ofNat b).toNat.toUInt8 = -1
            · rw [if_pos hi] at h
              cases h
              refine ⟨_, .int _ _, fun w => ?_⟩
              rw [h3, hi]
              rfl
            · rw [if_neg hi] at h
              simp only [forceN_eq] at h
              cases h
              refine ⟨_, .int _ _, fun w => ?_⟩
              rw [h3]
              congr 3
              generalize Lib.indexByte s.data.toList (Int.ofNat b).toNat.toUInt8 = z at hge hi ⊢
              show z = ((0 + z.toNat : Nat) : Int)
              omega
          · cases h
        · cases h
      · cases h

/-! ### (*strings.Builder).grow, where there is no buffer yet -/
noncomputable def growA (u8 : Nat) (args : List V) (A : AW) : Option (V × AW) :=
  match args with
  | [.pointer (some ⟨b0, 0, none⟩), .int .i64 (.ofNat n)] => match Nat.blt n 1048576, A.load ⟨b0, 1, none⟩ 1 with
    | true, some [.slice none 0 0] => match A.new (.cells [] u8 1 true false) with
      | some (b, A') => match A'.store ⟨b0, 1, none⟩ [.slice (some ⟨b, 0, none⟩) 0 0] with
        | some A'' => some (.tuple ⟨[]⟩, A'')
        | none => none
      | none => none
    | _, _ => none
  | _ => none
/-- what the walk through grow is to show -/
def GrowWalk (P : Program) (g u8 : Nat) : Prop :=
  ∀ (b n : Nat) (w : World) (C : Array Value) (e : Nat) (fz : Nat × Nat), w.heap[b]? = some (.cells C e fz) → C[1]? = some (.slice none 0 0) → (decide (fz.1 ≤ 1) && decide (1 < fz.2)) = false → n ≤ 281474976710656 →
    Calls P g #[.pointer (some ⟨b, 0, none⟩), .int .i64 n] w fun e w' => e = .returned (.tuple #[]) ∧
      ∃ cs : Array Value, (∀ (i : Nat) y, cs[i]? = some y → y.oneCell' = true) ∧ w' = (((w.alloc (.cells cs u8)).setCell ⟨b, 1, none⟩ (.slice (some ⟨w.heap.size, 0, none⟩) 0 cs.size)).drew.drew.drew)
theorem grow_ok {P : Program} {E : Env} {g u8 : Nat} (hw : GrowWalk P g u8) {args : List V} {A : AW} {v : V} {A' : AW} (h : growA u8 args A = some (v, A')) : CallOk P E g args A v A' := by
  unfold growA at h
  split at h
  · rename_i b0 n
    split at h
    · rename_i hn hld
      split at h
      · rename_i b A1 hnew
        split at h
        · rename_i A2 hst
          cases h
          have hn : n < 1048576 := by simpa using hn
          intro cx w args' hR hG hL hT
          obtain ⟨l⟩ := args'
          match l, hL with
          | [], hL => exact absurd hL.1 (by simp)
          | [_], hL => exact absurd hL.1 (by simp)
          | _ :: _ :: _ :: _, hL => exact absurd hL.1 (by simp)
          | [x', y'], hL =>
            have e1 := hL.2 0 _ _ rfl rfl
            have e2 := hL.2 1 _ _ rfl rfl
            cases e2
            cases e1 with
            | ptr _ r _ hm =>
            obtain ⟨b0', off', vs0, e0, z0, g0, ro0, ha, hget, hpart⟩ := AW.load_some hld
            cases ha
            obtain ⟨hb, hn1, hlt, hgb, hold⟩ := AW.new_some hnew
            subst hb
            obtain ⟨b1, off1, vs1, e1, z1, g1, vs', ha, hget1, hsp, rfl⟩ := AW.store_some hst
            cases ha
            have hne : b0 ≠ A.n := by have := AW.get_lt hget; omega
            rw [hold b0 hne, hget] at hget1
            cases hget1
            obtain ⟨C, fz, hheap, hlen, hrel, hfz, hone, hgf, hgt⟩ := hR.cells hget hm
            obtain ⟨hcell, hbound⟩ := lpart_some hpart
            have hC1 : C[1]? = some (.slice none 0 0) := by
              have hv : vs0[1]? = some (.slice none 0 0) := by
                have h5 : ((vs0.drop 1).take 1)[0]? = some (.slice none 0 0) := by rw [← hcell]; rfl
                rwa [List.getElem?_take_of_lt (by omega), List.getElem?_drop] at h5
              obtain ⟨y, hy, hvy, _⟩ := hrel.get hv
              cases hvy
              rw [List.getElem?_take_of_lt (by omega)] at hy
              simpa using hy
            have hfz1 : (decide (fz.1 ≤ 1) && decide (1 < fz.2)) = false := by
              cases hb : (decide (fz.1 ≤ 1) && decide (1 < fz.2))
              · rfl
              · simp only [Bool.and_eq_true, decide_eq_true_eq] at hb
                have h6 := (hfz.at _ hb.1 hb.2).1
                cases h6
            refine CallsIn.mono (callsIn_wide.2 (hw r n w C e0 fz hheap hC1 hfz1 (by omega))) ?_
            rintro e w' ⟨rfl, cs, hcs, rfl⟩
            refine ⟨_, rfl, ?_⟩
            have hfree := hT A.n (Nat.le_refl _)
            obtain ⟨-, hst1⟩ := Step.new_block (g := some (0, 1, cs.size)) (o := .cells cs u8) hR hnew hfree.1
              (show BRel _ A.n (.cells [] u8 1 true false) _ from ⟨cs, (0, 0), rfl, by simp, ⟨⟨by simp, fun i x y hx => by simp at hx⟩, fun i y hy => by simp at hy⟩, .inl rfl, hcs, (fun hg => by cases hg), (fun _ => by simp)⟩)
              (w.alloc (.cells cs u8)) rfl rfl rfl rfl
            have hext := hst1.ext
            have hm1 := hext.m _ _ hm
            have hv : VRel (cx.add A.n w.heap.size (some (0, 1, cs.size))) (.slice (some ⟨A.n, 0, none⟩) 0 0) (.slice (some ⟨w.heap.size, 0, none⟩) 0 cs.size) :=
              .sl _ _ _ _ _ _ (by simp) (.inr ⟨0, 1, cs.size, by simp, rfl, Nat.zero_le _, by omega⟩) (Nat.le_refl _)
            have hget1 : A1.get b0 = some (.cells vs0 e0 z0 g0 false) := (hold b0 hne).trans hget
            have hx : CRel (cx.add A.n w.heap.size (some (0, 1, cs.size))) [.slice (some ⟨A.n, 0, none⟩) 0 0] [.slice (some ⟨w.heap.size, 0, none⟩) 0 cs.size] :=
              ⟨⟨rfl, fun i x y hx hy => by
                cases i with
                | zero => simp at hx hy; subst hx; subst hy; exact hv
                | succ i => simp at hx⟩, fun i y hy => by
                cases i with
                | zero => simp at hy; subst hy; rfl
                | succ i => simp at hy⟩
            obtain ⟨w2, hrun, hst2⟩ := store_rel (P := P) hst1.rel hget1 hsp hm1 hx
            have hheap1 : (w.alloc (.cells cs u8)).heap[r]? = some (.cells C e0 fz) := by
              have hlt := hR.rng b0 r hm
              rw [World.alloc, Array.getElem?_push_lt hlt, ← hheap, Array.getElem?_eq_getElem hlt]
            have hw2 : w2 = (w.alloc (.cells cs u8)).setCell ⟨r, 1, none⟩ (.slice (some ⟨w.heap.size, 0, none⟩) 0 cs.size) := by
              have := run_storeCells_cells (P := P) r 1 [.slice (some ⟨w.heap.size, 0, none⟩) 0 cs.size] 0 (w.alloc (.cells cs u8)) (fun j hj => by
                  obtain rfl : j = 0 := by simpa using hj
                  rw [cell_of hheap1, hC1]; rfl) (fun j hj => by
                  obtain rfl : j = 0 := by simpa using hj
                  rw [frozen_of hheap1]; exact hfz1) (fun v hv => by simp at hv; subst hv; rfl)
              rw [hrun] at this
              cases this
              rfl
            subst hw2
            exact ⟨_, hst1.trans (hst2.trans (Step.drawn hst2.rel _)), .tuple _ _ rfl fun i x y hx => by simp at hx⟩
        · cases h
      · cases h
    · cases h
  · cases h
end Ax

namespace Ax
open Go
theorem digits_one : ∀ (n t : Nat) (acc : Array Value), (∀ (i : Nat) y, acc[i]? = some y → y.oneCell' = true) → ∀ (i : Nat) y, (Extern.BytealgMakeNoZero.digits n t acc)[i]? = some y → y.oneCell' = true := by
  intro n
  induction n with
  | zero => intro t acc h; exact h
  | succ n ih =>
    intro t acc h
    refine ih (t / 256) _ fun i y hy => ?_
    rw [Array.getElem?_push] at hy
    split at hy
    · cases hy; rfl
    · exact h i y hy
/-- the entry of MakeNoZero: a new row of cells -/
theorem makeNoZero_run {P : Program} (w : World) (ps : Array TypeId) {t e : TypeId} (ht : P.underlying t = some (.slice e)) {n : Nat} (hn : n ≤ 281474976710656) :
    ∃ cs : Array Value, (Extern.BytealgMakeNoZero.makeNoZero ps #[t] #[.int .i64 n]).run P w = .ok (.slice (some ⟨w.heap.size, 0, none⟩) n cs.size) (w.drew.drew.alloc (.cells cs e)) ∧
      n ≤ cs.size ∧ ∀ (i : Nat) y, cs[i]? = some y → y.oneCell' = true := by
  obtain ⟨cs, hrun, hle, -⟩ := Lib.run_makeNoZero (P := P) w ps t e ht n hn
  refine ⟨cs, hrun, hle, ?_⟩
  have hdef : Extern.BytealgMakeNoZero.makeNoZero ps #[t] #[.int .i64 n] =
      (do
        let .slice elem ← underlying t | stuck "bytealg.MakeNoZero: slice type expected"
        if (n : Int) < 0 || (n : Int) > 2 ^ 48 then runtimePanic (.error "makeslice: len out of range")
        let cap ← choose (.appendCap (n : Int).toNat 0 elem)
        askRoom cap
        let bytes ← choose (.extern "internal/bytealg.MakeNoZero.bytes" 0)
        let a ← newRow elem (Extern.BytealgMakeNoZero.digits cap bytes #[])
        pure (.slice (some a) (n : Int).toNat cap)) := rfl
  have h1 : ¬ (n : Int) < 0 := by omega
  have h2 : ¬ (281474976710656 : Int) < (n : Int) := by omega
  rw [hdef] at hrun
  simp [run_underlying ht, h1, h2, Question.forced, newRow] at hrun
  obtain ⟨-, h⟩ := hrun
  have : ∃ c b, cs = Extern.BytealgMakeNoZero.digits c b #[] := by
    have h3 := congrArg World.heap h
    rw [show ∀ o, (w.drew.drew.alloc o).heap = w.heap.push o from fun _ => rfl, show ∀ o, (w.drew.drew.alloc o).heap = w.heap.push o from fun _ => rfl] at h3
    have h4 := (Array.push_eq_push.1 h3).1
    injection h4 with h5
    exact ⟨_, _, h5.symm⟩
  obtain ⟨c, b, rfl⟩ := this
  exact digits_one _ _ _ fun i y hy => by simp at hy
end Ax

/-
The abstract run, part 35: a table of closed calls as contracts; what a run in the kernel gives.
-/
namespace Ax
open Go

/-- the same call, in an environment that differs only in its contracts -/
theorem CallOk.env {P : Program} {E E' : Env} (h : E'.ng = E.ng) {g : Nat} {args : List V} {A : AW} {v : V} {A' : AW} (k : CallOk P E g args A v A') : CallOk P E' g args A v A' := by
  intro cx w args' hR hG hL hT
  exact k cx w args' hR (fun b hb => hG b (by omega)) hL hT

/-- a call on what holds no address gives this in whatever world, and leaves there what there was -/
def Closed (P : Program) (E : Env) (g : Nat) (args : List V) (v : V) : Prop := ∀ A, CallOk P E g args A v A

def tabFind (args : List V) : List (List V × V) → Option V
  | [] => none
  | x :: r => match veq.leq (veq 8) x.1 args with
    | true => some x.2
    | false => tabFind args r
def tabExt (g : Nat) (args : List V) : List (Nat × List (List V × V)) → Option V
  | [] => none
  | x :: r => match Nat.beq x.1 g with
    | true => tabFind args x.2
    | false => tabExt g args r
def orTab (x : Option (V × AW)) (t : Option V) (A : AW) : Option (V × AW) := match x with
  | some r => some r
  | none => match t with
    | some v => some (v, A)
    | none => none
/-- an environment with a table of closed calls -/
def Env.tab (E : Env) (l : List (Nat × List (List V × V))) : Env := { E with ext := fun g args A => orTab (E.ext g args A) (tabExt g args l) A }
def TabOk (P : Program) (E : Env) (l : List (Nat × List (List V × V))) : Prop := ∀ x ∈ l, ∀ y ∈ x.2, Closed P E x.1 y.1 y.2
theorem tabFind_some {args : List V} {v : V} : ∀ {l : List (List V × V)}, tabFind args l = some v → (args, v) ∈ l := by
  intro l
  induction l with
  | nil => intro h; cases h
  | cons x r ih =>
    intro h
    unfold tabFind at h
    split at h
    · rename_i hq
      cases h
      have := leq_eq (f := veq 8) (fun x y _ hh => veq_eq 8 x y hh) hq
      rw [← this]
      exact List.mem_cons_self
    · exact List.mem_cons_of_mem _ (ih h)
theorem tabExt_some {g : Nat} {args : List V} {v : V} : ∀ {l : List (Nat × List (List V × V))}, tabExt g args l = some v → ∃ m, (g, m) ∈ l ∧ (args, v) ∈ m := by
  intro l
  induction l with
  | nil => intro h; cases h
  | cons x r ih =>
    intro h
    unfold tabExt at h
    split at h
    · rename_i hq
      obtain ⟨g', m⟩ := x
      obtain rfl := Nat.eq_of_beq_eq_true hq
      exact ⟨m, List.mem_cons_self, tabFind_some h⟩
    · obtain ⟨m, h1, h2⟩ := ih h
      exact ⟨m, List.mem_cons_of_mem _ h1, h2⟩
theorem EnvOk.tab {P : Program} {E : Env} (h : EnvOk P E) (l : List (Nat × List (List V × V))) : EnvOk P (E.tab l) := ⟨h.prog, h.info, h.und, h.fn, h.mixed, h.noNum, h.nb⟩
theorem ExtOk.tab {P : Program} {E : Env} (h : ExtOk P E) {l : List (Nat × List (List V × V))} (hl : TabOk P E l) : ExtOk P (E.tab l) := by
  intro g args A v A' he
  have he : orTab (E.ext g args A) (tabExt g args l) A = some (v, A') := he
  cases hx : E.ext g args A with
  | some r =>
    rw [hx] at he
    cases he
    exact (h g args A v A' hx).env rfl
  | none =>
    rw [hx] at he
    cases ht : tabExt g args l with
    | none => rw [ht] at he; cases he
    | some v' =>
      rw [ht] at he
      cases he
      obtain ⟨m, h1, h2⟩ := tabExt_some ht
      exact (hl _ h1 _ h2 A).env rfl

/-- what the kernel is asked: does a run end with this? -/
def retIs (v : V) (r : Option Res) : Bool := match r with
  | some (.ret v' _) => veq 8 v v'
  | _ => false
theorem retIs_some {v : V} {r : Option Res} (h : retIs v r = true) : ∃ A, r = some (.ret v A) := by
  unfold retIs at h
  split at h
  · rename_i v' A
    exact ⟨A, by rw [veq_eq 8 v v' h]⟩
  · cases h
/-- A RUN IN THE KERNEL OF A CALL ON WHAT HOLDS NO ADDRESS. -/
theorem closed_run {P : Program} {E : Env} (hE : EnvOk P E) (hX : ExtOk P E) {k g n : Nat} {args : List V} {v : V} (h : retIs v (evF E k (.call g args (startAW n))) = true)
    (hargs : plainL args = true) (hv : plainV v = true) (hn : n = E.ng) (hn' : n ≤ 65536) : Closed P E g args v := by
  obtain ⟨A', hr⟩ := retIs_some h
  rw [evF_eq] at hr
  exact fun A => closed_call hE hX hr hargs hv hn hn' rfl A
theorem Closed.env {P : Program} {E E' : Env} (h : E'.ng = E.ng) {g : Nat} {args : List V} {v : V} (k : Closed P E g args v) : Closed P E' g args v := fun A => (k A).env h
end Ax
