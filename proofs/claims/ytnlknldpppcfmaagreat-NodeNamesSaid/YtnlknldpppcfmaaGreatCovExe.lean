/-
  Proved here: the interpreter over abstract values (definitions). Conditions: none.
-/
import Derived.Test.YtnlknldpppcfmaaGreatCovVc
import Derived.Test.YtnlknldpppcfmaaGreatCovEff

namespace Go.Cov
open Go.RowKit
noncomputable section

/-! ### A store that the kernel can look into -/
/-- A frame: what was put last stands first; what is not there is not known. -/
inductive FE where
  | nil
  | put (d : Nat) (v : AVal) (t : FE)
abbrev MapL := List (AVal × AVal × Nat)
inductive EObj where
  | cells (cs : List AVal)
  | map (es : MapL) (clock : Nat)
  | iter (m : Option Nat) (since : Nat) (seen : List Nat) (last : Nat)
  | loop (st : LoopState) (pend : Option Code) (fr : FE) (ps : List Nat) (assign body : Code)
inductive Tr where
  | lf
  | nd (o : Option EObj) (l r : Tr)
def Tr.o (t : Tr) : Option EObj := Tr.rec (motive := fun _ => Option EObj) none (fun o _ _ _ _ => o) t
def Tr.l (t : Tr) : Tr := Tr.rec (motive := fun _ => Tr) .lf (fun _ l _ _ _ => l) t
def Tr.r (t : Tr) : Tr := Tr.rec (motive := fun _ => Tr) .lf (fun _ _ r _ _ => r) t
/-- One step down: an object's number is a road in the tree. -/
def getS (ih : Tr → Nat → Option EObj) (t : Tr) (i : Nat) : Option EObj :=
  Nat.rec (motive := fun _ => Option EObj) t.o (fun i _ => ih (Bool.rec (motive := fun _ => Tr) t.r t.l (Nat.beq (Nat.mod i 2) 0)) (Nat.div i 2)) i
def Tr.get (n : Nat) : Tr → Nat → Option EObj := Nat.rec (motive := fun _ => Tr → Nat → Option EObj) (fun _ _ => none) (fun _ ih => getS ih) n
def putS (ih : Tr → Nat → Option EObj → Tr) (t : Tr) (i : Nat) (o : Option EObj) : Tr :=
  Nat.rec (motive := fun _ => Tr) (Tr.nd o t.l t.r) (fun i _ => Bool.rec (motive := fun _ => Tr) (Tr.nd t.o t.l (ih t.r (Nat.div i 2) o)) (Tr.nd t.o (ih t.l (Nat.div i 2) o) t.r) (Nat.beq (Nat.mod i 2) 0)) i
def Tr.put (n : Nat) : Tr → Nat → Option EObj → Tr := Nat.rec (motive := fun _ => Tr → Nat → Option EObj → Tr) (fun t _ _ => t) (fun _ ih => putS ih) n
structure CS where
  t : Tr
  next : Nat
def look (n : Nat) (f : FE) : AVal := FE.rec (motive := fun _ => AVal) .junk (fun d v _ ih => Bool.rec (motive := fun _ => AVal) ih v (Nat.beq d n)) f
def toObj : Option EObj → Option AObj
  | some (.cells cs) => some (.cells cs)
  | some (.map es k) => some (.map es k)
  | some (.iter m s n l) => some (.iter m s n l)
  | some (.loop st pend fr ps a b) => some (.loop st pend (fun i => look i fr) ps a b)
  | none => none
def CS.get (c : CS) (i : Nat) : Option EObj := c.t.get 64 i
def CS.den (c : CS) : Store := ⟨fun i => toObj (c.get i), fun _ => false, c.next, 0⟩
def CS.put (c : CS) (i : Nat) (o : EObj) : CS := ⟨Tr.put 64 c.t i (some o), c.next⟩
def CS.del (c : CS) (i : Nat) : CS := ⟨Tr.put 64 c.t i none, c.next⟩

inductive R (α : Type) where
  | ok (a : α)
  | bad (s : List String)
abbrev RR := R (FE × CS)
abbrev KC := AVal → CS → RR

/-! ### Small parts -/
def no : RR := .bad []
def oK {α : Type} (o : Option α) (k : α → RR) : RR := Option.rec (motive := fun _ => RR) no k o
def bT (b : Bool) (k : RR) : RR := Bool.rec (motive := fun _ => RR) no k b
def bE {β : Type} (b : Bool) (x y : β) : β := Bool.rec (motive := fun _ => β) y x b
def nth (n : Nat) : List AVal → AVal := Nat.rec (motive := fun _ => List AVal → AVal) (fun l => List.rec (motive := fun _ => AVal) .junk (fun v _ _ => v) l) (fun _ ih l => List.rec (motive := fun _ => AVal) .junk (fun _ t _ => ih t) l) n
def cellsK2 (o : Option EObj) (k : List AVal → RR) : RR := Option.rec (motive := fun _ => RR) no (fun o => EObj.rec (motive := fun _ => RR) k (fun _ _ => no) (fun _ _ _ _ => no) (fun _ _ _ _ _ _ => no) o) o
def mapsK (o : Option EObj) (k : MapL → Nat → RR) : RR := Option.rec (motive := fun _ => RR) no (fun o => EObj.rec (motive := fun _ => RR) (fun _ => no) k (fun _ _ _ _ => no) (fun _ _ _ _ _ _ => no) o) o
def iterK (o : Option EObj) (k : Option Nat → Nat → List Nat → Nat → RR) : RR := Option.rec (motive := fun _ => RR) no (fun o => EObj.rec (motive := fun _ => RR) (fun _ => no) (fun _ _ => no) k (fun _ _ _ _ _ _ => no) o) o
def lenN (l : List AVal) : Nat := List.rec (motive := fun _ => Nat) 0 (fun _ _ ih => Nat.succ ih) l
def natK {β : Type} (n : Nat) (k : Nat → β) : β := Nat.rec (motive := fun _ => β) (k 0) (fun m _ => k (Nat.succ m)) n
def intK {β : Type} (n : Int) (k : Int → β) : β := Int.rec (motive := fun _ => β) (fun m => natK m fun m => k (Int.ofNat m)) (fun m => natK m fun m => k (Int.negSucc m)) n
def okV (o : Option (Cd × AVal)) (k : AVal → RR) : RR := Option.rec (motive := fun _ => RR) no (fun q => bT q.1.b (k q.2)) o
def fnR (f : Fn) (k : RR) : RR := match f with | .func _ => k | _ => no
/-! What stands in a value: each by one step of the kernel's. -/
def forceK (v : AVal) : (AVal → RR) → RR := AVal.rec (motive_1 := fun _ => (AVal → RR) → RR) (motive_2 := fun _ => Unit)
  (fun k => k .junk)
  (fun b k => k (.bool b))
  (fun a b k => k (.int a b))
  (fun s k => k (.str s))
  (fun k => k .ptr0)
  (fun a b k => k (.ptr a b))
  (fun a b _ k => k (.lptr a b))
  (fun a b c d _ k => k (.list a b c d))
  (fun a b c d e k => k (.sl a b c d e))
  (fun k => k .map0)
  (fun a k => k (.map a))
  (fun k => k .func0)
  (fun a b c _ _ k => k (.func a b c))
  (fun k => k .iface0)
  (fun a b _ k => k (.iface a b))
  (fun a _ k => k (.agg a))
  (fun a _ k => k (.tup a))
  (fun a k => k (.yld a))
  () (fun _ _ _ _ => ()) v

def forced (v : AVal) : (AVal → RR) → RR := AVal.rec (motive_1 := fun _ => (AVal → RR) → RR) (motive_2 := fun _ => Unit)
  (fun k => k .junk)
  (fun b k => Bool.rec (motive := fun _ => RR) (k (.bool false)) (k (.bool true)) b)
  (fun a b k => intK b fun n => k (.int a n))
  (fun s k => k (.str s))
  (fun k => k .ptr0)
  (fun a b k => k (.ptr a b))
  (fun a b _ k => k (.lptr a b))
  (fun a b c d _ k => k (.list a b c d))
  (fun a b c d e k => k (.sl a b c d e))
  (fun k => k .map0)
  (fun a k => k (.map a))
  (fun k => k .func0)
  (fun a b c _ _ k => k (.func a b c))
  (fun k => k .iface0)
  (fun a b _ k => k (.iface a b))
  (fun a _ k => k (.agg a))
  (fun a _ k => k (.tup a))
  (fun a k => k (.yld a))
  () (fun _ _ _ _ => ()) v

def ptrR (v : AVal) : (Nat → Nat → RR) → (List AVal → Nat → RR) → RR := AVal.rec (motive_1 := fun _ => (Nat → Nat → RR) → (List AVal → Nat → RR) → RR) (motive_2 := fun _ => Unit)
  (fun _ _ => no)
  (fun _ _ _ => no)
  (fun _ _ _ _ => no)
  (fun _ _ _ => no)
  (fun _ _ => no)
  (fun a b p _ => p a b)
  (fun a b _ _ q => q a b)
  (fun _ _ _ _ _ _ _ => no)
  (fun _ _ _ _ _ _ _ => no)
  (fun _ _ => no)
  (fun _ _ _ => no)
  (fun _ _ => no)
  (fun _ _ _ _ _ _ _ => no)
  (fun _ _ => no)
  (fun _ _ _ _ _ => no)
  (fun _ _ _ _ => no)
  (fun _ _ _ _ => no)
  (fun _ _ _ => no)
  () (fun _ _ _ _ => ()) v

def boolR (v : AVal) : (Bool → RR) → RR := AVal.rec (motive_1 := fun _ => (Bool → RR) → RR) (motive_2 := fun _ => Unit)
  (fun _ => no)
  (fun b k => k b)
  (fun _ _ _ => no)
  (fun _ _ => no)
  (fun _ => no)
  (fun _ _ _ => no)
  (fun _ _ _ _ => no)
  (fun _ _ _ _ _ _ => no)
  (fun _ _ _ _ _ _ => no)
  (fun _ => no)
  (fun _ _ => no)
  (fun _ => no)
  (fun _ _ _ _ _ _ => no)
  (fun _ => no)
  (fun _ _ _ _ => no)
  (fun _ _ _ => no)
  (fun _ _ _ => no)
  (fun _ _ => no)
  () (fun _ _ _ _ => ()) v

def tupR (v : AVal) : (List AVal → RR) → RR := AVal.rec (motive_1 := fun _ => (List AVal → RR) → RR) (motive_2 := fun _ => Unit)
  (fun _ => no)
  (fun _ _ => no)
  (fun _ _ _ => no)
  (fun _ _ => no)
  (fun _ => no)
  (fun _ _ _ => no)
  (fun _ _ _ _ => no)
  (fun _ _ _ _ _ _ => no)
  (fun _ _ _ _ _ _ => no)
  (fun _ => no)
  (fun _ _ => no)
  (fun _ => no)
  (fun _ _ _ _ _ _ => no)
  (fun _ => no)
  (fun _ _ _ _ => no)
  (fun _ _ _ => no)
  (fun a _ k => k a)
  (fun _ _ => no)
  () (fun _ _ _ _ => ()) v

def intR (v : AVal) : (Int → RR) → RR := AVal.rec (motive_1 := fun _ => (Int → RR) → RR) (motive_2 := fun _ => Unit)
  (fun _ => no)
  (fun _ _ => no)
  (fun _ b k => k b)
  (fun _ _ => no)
  (fun _ => no)
  (fun _ _ _ => no)
  (fun _ _ _ _ => no)
  (fun _ _ _ _ _ _ => no)
  (fun _ _ _ _ _ _ => no)
  (fun _ => no)
  (fun _ _ => no)
  (fun _ => no)
  (fun _ _ _ _ _ _ => no)
  (fun _ => no)
  (fun _ _ _ _ => no)
  (fun _ _ _ => no)
  (fun _ _ _ => no)
  (fun _ _ => no)
  () (fun _ _ _ _ => ()) v

def nilR (v : AVal) : (AVal → RR) → RR := AVal.rec (motive_1 := fun _ => (AVal → RR) → RR) (motive_2 := fun _ => Unit)
  (fun _ => no)
  (fun _ _ => no)
  (fun _ _ _ => no)
  (fun _ _ => no)
  (fun _ => no)
  (fun a b k => k (.ptr a b))
  (fun a b _ k => k (.lptr a b))
  (fun _ _ _ _ _ _ => no)
  (fun _ _ _ _ _ _ => no)
  (fun _ => no)
  (fun _ _ => no)
  (fun _ => no)
  (fun a b c _ _ k => fnR a (k (.func a b c)))
  (fun _ => no)
  (fun _ _ _ _ => no)
  (fun _ _ _ => no)
  (fun _ _ _ => no)
  (fun a k => k (.yld a))
  () (fun _ _ _ _ => ()) v

def guardR (v : AVal) : (Bool → RR) → RR → RR := AVal.rec (motive_1 := fun _ => (Bool → RR) → RR → RR) (motive_2 := fun _ => Unit)
  (fun _ _ => no)
  (fun b k _ => k b)
  (fun _ _ _ _ => no)
  (fun _ _ _ => no)
  (fun _ _ => no)
  (fun _ _ _ _ => no)
  (fun _ _ _ _ _ => no)
  (fun _ _ _ _ _ _ _ => no)
  (fun _ _ _ _ _ _ _ => no)
  (fun _ _ => no)
  (fun _ _ _ => no)
  (fun _ _ => no)
  (fun _ _ _ _ _ _ _ => no)
  (fun _ _ => no)
  (fun _ _ _ _ _ => no)
  (fun _ _ _ _ => no)
  (fun a _ _ s => List.rec (motive := fun _ => RR) s (fun _ _ _ => no) a)
  (fun _ _ _ => no)
  () (fun _ _ _ _ => ()) v

def listR (v : AVal) : (Bool → Room → Nat → List AVal → RR) → (Nat → Nat → Nat → Nat → Nat → RR) → RR → RR := AVal.rec (motive_1 := fun _ => (Bool → Room → Nat → List AVal → RR) → (Nat → Nat → Nat → Nat → Nat → RR) → RR → RR) (motive_2 := fun _ => Unit)
  (fun _ _ z => z)
  (fun _ _ _ z => z)
  (fun _ _ _ _ z => z)
  (fun _ _ _ z => z)
  (fun _ _ z => z)
  (fun _ _ _ _ z => z)
  (fun _ _ _ _ _ z => z)
  (fun a b c d _ p _ _ => p a b c d)
  (fun a b c d e _ q _ => q a b c d e)
  (fun _ _ z => z)
  (fun _ _ _ z => z)
  (fun _ _ z => z)
  (fun _ _ _ _ _ _ _ z => z)
  (fun _ _ z => z)
  (fun _ _ _ _ _ z => z)
  (fun _ _ _ _ z => z)
  (fun _ _ _ _ z => z)
  (fun _ _ _ z => z)
  () (fun _ _ _ _ => ()) v

def condR (v : AVal) : R (AX × FE × CS) → R (AX × FE × CS) → R (AX × FE × CS) := AVal.rec (motive_1 := fun _ => R (AX × FE × CS) → R (AX × FE × CS) → R (AX × FE × CS)) (motive_2 := fun _ => Unit)
  (fun _ _ => .bad ["cond"])
  (fun b x y => Bool.rec (motive := fun _ => R (AX × FE × CS)) y x b)
  (fun _ _ _ _ => .bad ["cond"])
  (fun _ _ _ => .bad ["cond"])
  (fun _ _ => .bad ["cond"])
  (fun _ _ _ _ => .bad ["cond"])
  (fun _ _ _ _ _ => .bad ["cond"])
  (fun _ _ _ _ _ _ _ => .bad ["cond"])
  (fun _ _ _ _ _ _ _ => .bad ["cond"])
  (fun _ _ => .bad ["cond"])
  (fun _ _ _ => .bad ["cond"])
  (fun _ _ => .bad ["cond"])
  (fun _ _ _ _ _ _ _ => .bad ["cond"])
  (fun _ _ => .bad ["cond"])
  (fun _ _ _ _ _ => .bad ["cond"])
  (fun _ _ _ _ => .bad ["cond"])
  (fun _ _ _ _ => .bad ["cond"])
  (fun _ _ _ => .bad ["cond"])
  () (fun _ _ _ _ => ()) v

/-- What of a frame stays from round to round: the slots that were there. -/
def forceA {β : Type} (v : AVal) (k : AVal → β) : β := match v with
  | .junk => k .junk
  | .bool b => k (.bool b)
  | .int a b => k (.int a b)
  | .str s => k (.str s)
  | .ptr0 => k .ptr0
  | .ptr a b => k (.ptr a b)
  | .lptr a b => k (.lptr a b)
  | .list a b c d => k (.list a b c d)
  | .sl a b c d e => k (.sl a b c d e)
  | .map0 => k .map0
  | .map a => k (.map a)
  | .func0 => k .func0
  | .func a b c => k (.func a b c)
  | .iface0 => k .iface0
  | .iface a b => k (.iface a b)
  | .agg a => k (.agg a)
  | .tup a => k (.tup a)
  | .yld a => k (.yld a)
def compK {β : Type} (q : FE) (f : FE) : (FE → β) → β := FE.rec (motive := fun _ => (FE → β) → β) (fun k => k .nil) (fun d _ _ ih k => forceA (look d q) fun v => ih fun r => k (.put d v r)) f
def initE (args : List AVal) : Nat → FE := List.rec (motive := fun _ => Nat → FE) (fun _ => .nil) (fun v _ ih i => forceA v fun v => .put i v (ih (Nat.succ i))) args
def putsE (ps : List Nat) (args : List AVal) (fr : FE) : FE := match ps, args with
  | p :: ps, v :: vs => putsE ps vs (.put p v fr)
  | _, _ => fr
def opdR (x : Operand) : (P : Program) → Env P → FE → AVal := Operand.rec (motive := fun _ => (P : Program) → Env P → FE → AVal) (fun t _ _ fr => look t fr) (fun v _ _ _ => ofVal v) (fun i _ E _ => E.gl i) (fun f _ _ _ => .func (.func f) [] []) x
def opdE (P : Program) [E : Env P] (fr : FE) (x : Operand) : AVal := opdR x P E fr
abbrev OpE := FE → CS → Nat → KC → RR

def moveE (P : Program) [Env P] (x : Operand) : OpE := fun fr c _ k => forceK (opdE P fr x) fun v => k v c
def pickE (P : Program) [Env P] (a x y : Operand) : OpE := fun fr c _ k => boolR (opdE P fr a) fun b => forceK (bE b (opdE P fr x) (opdE P fr y)) fun v => k v c
def allocE (P : Program) (t : TypeId) : OpE := fun _ c id k => oK (zeroA P t) fun zs => k (.ptr id 0) (c.put id (.cells zs))
def boxE (P : Program) [Env P] (x : Operand) : OpE := fun fr c id k => oK (cellsOf (opdE P fr x)) fun cs => k (.ptr id 0) (c.put id (.cells cs))
def loadK (P : Program) (t : TypeId) (a : AVal) (c : CS) (k : KC) : RR := ptrR a (fun id off => cellsK2 (c.get id) fun cs => okV (loadA P t cs off) fun v => forceK v fun v => k v c) (fun cs off => okV (loadA P t cs off) fun v => forceK v fun v => k v c)
def loadE (P : Program) [Env P] (t : TypeId) (a : Operand) : OpE := fun fr c _ k => loadK P t (opdE P fr a) c k
def storeK (P : Program) (t : TypeId) (a v : AVal) (c : CS) (k : KC) : RR := ptrR a (fun i off => cellsK2 (c.get i) fun cs => oK (cellsOf v) fun vs => oK (tsz P t) fun n => bT (Nat.beq (lenN vs) n) (bT (Nat.ble (Nat.add off (lenN vs)) (lenN cs)) (k (.tup []) (c.put i (.cells (setCells cs off vs)))))) (fun _ _ => no)
def storeE (P : Program) [Env P] (t : TypeId) (a x : Operand) : OpE := fun fr c _ k => storeK P t (opdE P fr a) (opdE P fr x) c k
def nilE (P : Program) [Env P] (x : Operand) : OpE := fun fr c _ k => nilR (opdE P fr x) fun v => k v c
def binE (P : Program) [Env P] (op : BinOp) (t : TypeId) (x y : Operand) : OpE := fun fr c _ k => okV (binA P op t (opdE P fr x) (opdE P fr y)) fun v => forced v fun v => k v c
def unE (P : Program) [Env P] (op : UnOp) (x : Operand) : OpE := fun fr c _ k => okV (unA op (opdE P fr x)) fun v => forced v fun v => k v c
def fieldAddrK (n : Nat) (v : AVal) (c : CS) (k : KC) : RR := ptrR v (fun id off => natK (Nat.add off n) fun o => k (.ptr id o) c) (fun cs off => natK (Nat.add off n) fun o => k (.lptr cs o) c)
def fieldAddrE (P : Program) [Env P] (s : TypeId) (x : Operand) (f : Nat) : OpE := fun fr c _ k => oK (offA P s f) fun n => fieldAddrK n (opdE P fr x) c k
def indexAddrE (P : Program) [Env P] (t : TypeId) (x i : Operand) : OpE := fun fr c _ k => okV (indexAddrA P t (opdE P fr x) (opdE P fr i)) fun v => forceK v fun v => k v c
def indexE (P : Program) [Env P] (t : TypeId) (x i : Operand) : OpE := fun fr c _ k => okV (indexA P t (opdE P fr x) (opdE P fr i)) fun v => forced v fun v => k v c
def extractK (v : AVal) (i : Nat) (c : CS) (k : KC) : RR := tupR v fun vs => bT (Nat.ble (Nat.succ i) (lenN vs)) (forceK (nth i vs) fun v => k v c)
def extractE (P : Program) [Env P] (x : Operand) (i : Nat) : OpE := fun fr c _ k => extractK (opdE P fr x) i c k
/-- What is seldom met: by the model's own words. -/
def restE (P : Program) [Env P] (op : Op) : OpE := fun fr c _ k => okV (pureOp P (opdE P fr) c.den op) fun v => forced v fun v => k v c

/-- An append's checks: the element's cells and bytes; nothing too long. -/
def appOK (es bt n j : Nat) (zs : List AVal) : Bool := Nat.beq (lenN zs) es && Nat.ble 1 bt && Nat.ble bt 1048576 && Nat.ble (Nat.mul (Nat.add n j) bt) 35184372088832
def appK (s : AVal) (es bt : Nat) (zs : List AVal) (c : CS) (id : Nat) (k : KC) (j : Nat) (ds : List AVal) : RR := listR s
  (fun nil r n cs => (match r with
    | .full => bT (appOK es bt n j zs) (bT (Nat.beq (lenN cs) (Nat.mul n es)) (bE (Nat.beq j 0) (k (.list nil .full n cs) c) (natK (Nat.add n j) fun m => k (.sl id 0 m m es) (c.put id (.cells (cs ++ ds))))))
    | _ => no))
  (fun sid off n m e => cellsK2 (c.get sid) fun cs => bT (appOK es bt n j zs) (bE (Nat.beq j 0) (k (.sl sid off n m e) c)
      (bE (Nat.ble (Nat.add n j) m) (bT (Nat.ble (Nat.add off (Nat.mul (Nat.add n j) es)) (lenN cs)) (natK (Nat.add n j) fun n' => k (.sl sid off n' m e) (c.put sid (.cells (setCells cs (off + n * es) ds)))))
        (bT (Nat.beq off 0) (bT (Nat.beq e es) (bT (Nat.ble (Nat.mul n es) (lenN cs)) (natK (Nat.add n j) fun m => k (.sl id 0 m m es) ((c.del sid).put id (.cells (cs.take (n * es) ++ ds))))))))))
  no
def appE (P : Program) (t u : TypeId) (s x : AVal) (c : CS) (id : Nat) (k : KC) : RR :=
  oK (slE P t) fun el => oK (tsz P el) fun es => oK (tbytes P el) fun bt => oK (zeroA P el) fun zs => bE (decide (tk P u = .slice))
    (oK (srcA c.den es x) fun q => bT q.2.2.b (appK s es bt zs c id k q.1 q.2.1))
    (match tk P u, x with
      | .int _, .int _ n => intK n fun n => (match n with | .ofNat n => bT (Nat.ble 1 es) (appK s es bt zs c id k n (repl zs n)) | _ => no)
      | _, _ => no)
def copyE (P : Program) (t : TypeId) (d x : AVal) (c : CS) (k : KC) : RR := oK (slE P t) fun el => oK (tsz P el) fun es => oK (srcA c.den es x) fun q => bT q.2.2.b (natK q.1 fun j => listR d
  (fun _ _ n _ => bT (Nat.beq (min j n) 0) (k (.int .i64 (Int.ofNat 0)) c))
  (fun did off n _ _ => cellsK2 (c.get did) fun cs => natK (min j n) fun i => bT (Nat.ble (Nat.add off (Nat.mul i es)) (lenN cs)) (k (.int .i64 (Int.ofNat i)) (c.put did (.cells (setCells cs off (q.2.1.take (i * es)))))))
  no)
def clearE (P : Program) (t : TypeId) (x : AVal) (c : CS) (k : KC) : RR := oK (slE P t) fun el => oK (zeroA P el) fun zs => listR x
  (fun _ _ n _ => bT (Nat.beq n 0) (k (.tup []) c))
  (fun i off n _ _ => bE (Nat.beq n 0) (k (.tup []) c) (cellsK2 (c.get i) fun cs => bT (Nat.ble (Nat.add off (Nat.mul n (lenN zs))) (lenN cs)) (k (.tup []) (c.put i (.cells (setCells cs off (repl zs n))))))) no
def capE (P : Program) (t : TypeId) (x : AVal) (c : CS) (k : KC) : RR := match x with
  | .list _ r n _ => (match r with | .full => bT (decide (tk P t = .slice)) (k (.int .i64 (Int.ofNat n)) c) | _ => no)
  | _ => no
def lenE (P : Program) (t : TypeId) (x : AVal) (c : CS) (k : KC) : RR := okV (lenA P c.den t x) fun v => forced v fun v => k v c

/-! ### Maps -/
def eqT (a b : AVal) : Bool := match a, b with
  | .int _ x, .int _ y => decide (x = y)
  | .agg xs, .agg ys => aeqs xs ys
  | _, _ => false
/-- Is that a key that a map may have? -/
def keyT (P : Program) [E : Env P] (t : TypeId) (v : AVal) : Bool := match v with
  | .int k _ => decide (tk P t = .int k)
  | .agg xs => E.keyS t && (match E.kinds t with | some ks => decide (xs.map ack = ks.map some) | none => false)
  | _ => false
def keysT (P : Program) [Env P] (t : TypeId) (es : MapL) : Bool := List.rec (motive := fun _ => Bool) true (fun e _ ih => bE (keyT P t e.1) ih false) es
def findE (k : AVal) : MapL → Option (AVal × Nat)
  | [] => none
  | e :: es => bE (eqT k e.1) (some e.2) (findE k es)
def setE (k v : AVal) : MapL → MapL
  | [] => []
  | e :: es => bE (eqT k e.1) ((k, v, e.2.2) :: es) (e :: setE k v es)
def eraseE (k : AVal) : MapL → MapL
  | [] => []
  | e :: es => bE (eqT k e.1) es (e :: eraseE k es)
def mapKT (P : Program) (t : TypeId) : Option (TypeId × TypeId) := match P.underlying t with | some (.map k e) => some (k, e) | _ => none
def zeroV (P : Program) (e : TypeId) : Option AVal := match P.info? e with | some i => (match i.zero with | some z => some (ofVal z) | none => none) | none => none
def esK (x : AVal) (c : CS) (k : MapL → RR) : RR := match x with | .map0 => k [] | .map i => mapsK (c.get i) fun es _ => k es | _ => no
def lookupE (P : Program) [Env P] (t : TypeId) (x y : Operand) (ok : Bool) : OpE := fun fr c _ k =>
  oK (mapKT P t) fun q => forceK (opdE P fr y) fun key => bT (keyT P q.1 key) (esK (opdE P fr x) c fun es => bT (keysT P q.1 es)
    (Option.rec (motive := fun _ => RR) (oK (zeroV P q.2) fun z => k (bE ok (.tup [z, .bool false]) z) c) (fun v => forceK v.1 fun v => k (bE ok (.tup [v, .bool true]) v) c) (findE key es)))
def mapUpdateE (P : Program) [Env P] (t : TypeId) (x y z : Operand) : OpE := fun fr c _ k => match opdE P fr x with
  | .map i => oK (mapKT P t) fun q => forceK (opdE P fr y) fun key => forceK (opdE P fr z) fun v => bT (keyT P q.1 key) (mapsK (c.get i) fun es ck => bT (keysT P q.1 es)
    (Option.rec (motive := fun _ => RR) (natK (Nat.succ ck) fun n => k (.tup []) (c.put i (.map (es ++ [(key, v, ck)]) n))) (fun _ => k (.tup []) (c.put i (.map (setE key v es) ck))) (findE key es)))
  | _ => no
def rangeMapE (P : Program) [Env P] (t : TypeId) (x : Operand) : OpE := fun fr c id k => oK (mapKT P t) fun _ => match opdE P fr x with
  | .map0 => k (.ptr id 0) (c.put id (.iter none 0 [] 0))
  | .map i => mapsK (c.get i) fun _ ck => k (.ptr id 0) (c.put id (.iter (some i) ck [] ck))
  | _ => no
/-- A step over a map, where there is but one to take, or none. -/
def nextE (P : Program) [Env P] (x : Operand) : OpE := fun fr c _ k => match opdE P fr x with
  | .ptr id off => bT (Nat.beq off 0) (iterK (c.get id) fun m since seen last => (match m with
    | none => k (.tup [.bool false]) c
    | some mi => mapsK (c.get mi) fun es ck => bT (es.all fun e => Nat.ble (Nat.succ e.2.2) last && Nat.ble (Nat.succ e.2.2) since) (match es.filter fun e => !seen.contains e.2.2 with
      | [] => k (.tup [.bool false]) c
      | [e] => k (.tup [.bool true, e.1, e.2.1]) (c.put id (.iter (some mi) since (seen ++ [e.2.2]) ck))
      | _ => no)))
  | _ => no
def entryE (P : Program) [Env P] (x : Operand) : OpE := fun fr c _ k => match opdE P fr x with
  | .ptr id off => bT (Nat.beq off 0) (iterK (c.get id) fun m _ seen last => (match m with
    | none => no
    | some mi => mapsK (c.get mi) fun es ck => bT (Nat.beq ck last) (match seen.getLast? with
      | none => no
      | some st => (match es.find? fun e => e.2.2 == st with
        | some e => k (.tup [e.1, e.2.1]) c
        | none => no))))
  | _ => no
def deleteE (P : Program) [Env P] (t : TypeId) (x y : AVal) (c : CS) (k : KC) : RR := match x with
  | .map i => oK (mapKT P t) fun q => forceK y fun key => bT (keyT P q.1 key) (mapsK (c.get i) fun es ck => bT (keysT P q.1 es) (k (.tup []) (c.put i (.map (eraseE key es) ck))))
  | _ => no
def builtinE (P : Program) [Env P] (b : Builtin) (ts : List TypeId) (xs : List Operand) : OpE := fun fr c id k =>
  match b, ts, xs with
  | .len, [t], [x] => lenE P t (opdE P fr x) c k
  | .append, [t, u], [s, x] => appE P t u (opdE P fr s) (opdE P fr x) c id k
  | .copy, [t, _], [d, x] => copyE P t (opdE P fr d) (opdE P fr x) c k
  | .clear, [t], [x] => clearE P t (opdE P fr x) c k
  | .cap, [t], [x] => capE P t (opdE P fr x) c k
  | .delete, [t, _], [x, y] => deleteE P t (opdE P fr x) (opdE P fr y) c k
  | b, ts, xs => okV (pureBuiltin P c.den b ts (xs.map (opdE P fr))) fun v => forced v fun v => k v c
def makeSliceE (P : Program) [Env P] (t : TypeId) (l : Operand) : OpE := fun fr c id k => match opdE P fr l with
  | .int _ n => oK (slE P t) fun el => oK (zeroA P el) fun zs => intK n fun n => (match n with
    | .ofNat n => bE (Nat.beq n 0) (k (.list false .full 0 []) c) (oK (tsz P el) fun es => k (.sl id 0 n n es) (c.put id (.cells (repl zs n))))
    | _ => no)
  | _ => no
def convE (P : Program) [Env P] (s d : TypeId) (x : Operand) : OpE := fun fr c id k => bE (isStrToBytes P s d)
  (oK (slE P d) fun e => oK (tsz P e) fun z => bT (Nat.beq z 1) (match opdE P fr x with
    | .str b => natK b.size fun n => k (.sl id 0 n n 1) (c.put id (.cells (byteCells b)))
    | _ => no))
  (okV (pureOp P (opdE P fr) c.den (.convert s d x)) fun v => forced v fun v => k v c)
def makeMapE (P : Program) [Env P] (t : TypeId) (r : Option Operand) : OpE := fun fr c id k => match r with
  | none => k (.map id) (c.put id (.map [] 0))
  | some x => oK (mapKT P t) fun _ => match opdE P fr x with | .int _ _ => k (.map id) (c.put id (.map [] 0)) | _ => no
def noE : OpE := fun _ _ _ _ => no


abbrev CallE := AVal → List AVal → CS → R (AVal × CS)
def rK {α β : Type} (r : R α) (k : α → R β) : R β := R.rec (motive := fun _ => R β) k .bad r
def callOpE (P : Program) [Env P] (call : CallE) (f : Operand) (args : List Operand) : OpE := fun fr c _ k => rK (call (opdE P fr f) (args.map (opdE P fr)) c) fun q => forceK q.1 fun v => k v q.2
def callsE (P : Program) [Env P] (call : CallE) (c : Call) : OpE := match c.callee with
  | .value f => callOpE P call f c.args.toList
  | .builtin b => builtinE P b c.argTypes.toList c.args.toList
  | .invoke _ _ => noE
def opR (o : Op) : (P : Program) → Env P → CallE → OpE := Op.rec (motive := fun _ => (P : Program) → Env P → CallE → OpE)
  (fun x P _ _ => moveE P x)
  (fun x P _ _ => moveE P x)
  (fun a x y P _ _ => pickE P a x y)
  (fun t P _ _ => allocE P t)
  (fun _ x P _ _ => boxE P x)
  (fun t p P _ _ => restE P (.build t p))
  (fun t n p P _ _ => restE P (.buildSlice t n p))
  (fun _ _ _ _ _ _ _ => noE)
  (fun t a P _ _ => loadE P t a)
  (fun t a x P _ _ => storeE P t a x)
  (fun _ _ _ _ => noE)
  (fun _ _ _ _ => noE)
  (fun x P _ _ => nilE P x)
  (fun o t x y _ P _ _ => binE P o t x y)
  (fun o _ x P _ _ => unE P o x)
  (fun s d x P _ _ => convE P s d x)
  (fun _ _ _ _ _ => noE)
  (fun t x P _ _ => restE P (.makeInterface t x))
  (fun f a b P _ _ => restE P (.makeFunc f a b))
  (fun t o P _ _ => makeMapE P t o)
  (fun _ _ _ _ _ => noE)
  (fun _ _ _ _ _ _ => noE)
  (fun t x a b c P _ _ => restE P (.slice t x a b c))
  (fun s x f P _ _ => fieldAddrE P s x f)
  (fun t x f P _ _ => restE P (.field t x f))
  (fun t x i P _ _ => indexAddrE P t x i)
  (fun t x i P _ _ => indexE P t x i)
  (fun t x y b P _ _ => lookupE P t x y b)
  (fun t x y z P _ _ => mapUpdateE P t x y z)
  (fun _ _ _ _ _ _ => noE)
  (fun _ _ _ _ _ _ _ => noE)
  (fun t x P _ _ => rangeMapE P t x)
  (fun x b P _ _ => bE b noE (nextE P x))
  (fun x P _ _ => entryE P x)
  (fun _ _ _ _ _ _ _ => noE)
  (fun x i P _ _ => extractE P x i)
  (fun c P _ call => callsE P call c)
  (fun _ _ _ _ => noE)
  (fun _ _ _ _ => noE)
  (fun _ _ _ _ => noE)
  (fun _ _ _ _ _ => noE)
  (fun _ _ _ _ _ _ => noE)
  (fun _ _ _ _ _ => noE)
  o

/-! ### Regions -/
def dstK (fr : FE) (d : Option Tmp) (v : AVal) : FE := Option.rec (motive := fun _ => FE) fr (fun d => .put d v fr) d
def wantE (ops : Array Oper) (fr : FE) (j : Nat) (want : Bool) (T S : RR) : RR := oK ((ops[j]?).bind (·.dst)) fun d => guardR (look d fr) (fun b => bE (bE want b (bE b false true)) T S) S
def guardE (ops : Array Oper) (fr : FE) (g : Option (Nat × Bool)) (T S : RR) : RR := Option.rec (motive := fun _ => RR) T (fun q => wantE ops fr q.1 q.2 T S) g
def opsS (P : Program) [i : Env P] (call : CallE) (ops : Array Oper) (o : Oper) (ih : Nat → FE → CS → RR) (id : Nat) (fr : FE) (c : CS) : RR :=
  guardE ops fr o.guard (opR o.op P i call fr c id fun v c => ih (Nat.succ id) (dstK fr o.dst v) c) (ih (Nat.succ id) (dstK fr o.dst (.tup [])) c)
def opsE (P : Program) [Env P] (call : CallE) (ops : Array Oper) (l : List Oper) : Nat → FE → CS → RR :=
  List.rec (motive := fun _ => Nat → FE → CS → RR) (fun _ fr c => .ok (fr, c)) (fun o _ ih => opsS P call ops o ih) l

/-! ### Regions that draw their order -/
structure PSt where
  i : Nat
  o : Oper
  hide : List Nat
  re : List Oper
  nw : Bool
/-- An operation, its place, and all that must come before it. -/
structure OR where
  i : Nat
  o : Oper
  bf : Nat
  eff : Bool
def fld (B n k : Nat) : Nat := Nat.mod (Nat.shiftRight B (Nat.mul k n)) (Nat.pow 2 n)
def edgesOK (j : Nat) (l : List Edge) : Bool := List.rec (motive := fun _ => Bool) true (fun e _ ih => bE (Region.binds .any e) (bE (Nat.ble (Nat.succ e.on) j) ih false) ih) l
def bfOne (B n : Nat) (l : List Edge) (k : Nat → Option (List OR)) : Nat → Option (List OR) := List.rec (motive := fun _ => Nat → Option (List OR)) k (fun e _ ih s => bE (Region.binds .any e) (natK (Nat.lor (Nat.lor s (Nat.pow 2 e.on)) (fld B n e.on)) ih) (ih s)) l
def bK2 (b : Bool) (k : Bool → Option (List OR)) : Option (List OR) := bE b (k true) (k false)
/-- The operations with all that must come before each. -/
def recsE (P : Program) (n : Nat) (l : List Oper) : Nat → Nat → Option (List OR) := List.rec (motive := fun _ => Nat → Nat → Option (List OR)) (fun _ _ => some [])
  (fun o _ ih j B => bE (edgesOK j o.after.toList) (bfOne B n o.after.toList (fun b => natK (Nat.lor B (Nat.shiftLeft b (Nat.mul j n))) fun B' => bK2 (decide (kindOf P o.op = .eff)) fun e => Option.rec (motive := fun _ => Option (List OR)) none (fun r => some (⟨j, o, b, e⟩ :: r)) (ih (Nat.succ j) B')) 0) none) l
def bitsOf (l : List Nat) : Nat := List.rec (motive := fun _ => Nat) 0 (fun t _ ih => Nat.lor (Nat.pow 2 t) ih) l
def dstM (o : Oper) : Nat := match o.dst with | some d => Nat.pow 2 d | none => 0
def predM (ops : Array Oper) (l : List Edge) : Nat := List.rec (motive := fun _ => Nat) 0 (fun e _ ih => bE (Region.binds .any e) (Nat.lor (match ops[e.on]? with | some o => dstM o | none => 0) ih) ih) l
def hasE (i : Nat) (l : List Edge) : Bool := List.rec (motive := fun _ => Bool) false (fun e _ ih => bE (Region.binds .any e) (bE (Nat.beq e.on i) true ih) ih) l
def oldB (db : Nat) (es : List Edge) (l : List (Nat × Nat)) : Bool := List.rec (motive := fun _ => Bool) true (fun q _ ih => bE (Nat.beq (Nat.land db q.2) 0) ih (bE (hasE q.1 es) ih false)) l
/-- Each slot is written once; where one looks at what another one writes, there is an edge between them. -/
def pwB (ops : Array Oper) (l : List Oper) : Nat → Nat → Nat → List (Nat × Nat) → Bool := List.rec (motive := fun _ => Nat → Nat → Nat → List (Nat × Nat) → Bool) (fun _ _ _ _ => true)
  (fun o _ ih j D L prev => natK (bitsOf (o.looksAt ops)) fun lm => natK (dstM o) fun db => bE (Nat.beq (Nat.land db D) 0) (bE (bE (Nat.beq (Nat.land db L) 0) true (oldB db o.after.toList prev)) (bE (Nat.beq (Nat.land (Nat.land lm D) (predM ops o.after.toList)) (Nat.land lm D)) (natK (Nat.lor D db) fun D' => natK (Nat.lor L lm) fun L' => ih (Nat.succ j) D' L' ((j, lm) :: prev)) false) false) false) l
def takeL (EM M : Nat) (l : List OR) : List OR := List.rec (motive := fun _ => List OR) [] (fun r _ ih => bE r.eff ih (bE (Nat.beq (Nat.land r.bf EM) M) (r :: ih) ih)) l
def effM (l : List OR) : Nat := List.rec (motive := fun _ => Nat) 0 (fun r _ ih => bE r.eff (Nat.lor (Nat.pow 2 r.i) ih) ih) l
/-- What needs fewer of those that do something comes first. -/
def ordL (all : List OR) (EM : Nat) (l : List OR) : Nat → List OR := List.rec (motive := fun _ => Nat → List OR) (fun M => takeL EM M all) (fun r _ ih M => bE r.eff (takeL EM M all ++ (r :: natK (Nat.lor M (Nat.pow 2 r.i)) ih)) (ih M)) l
def fwdB (n : Nat) (l : List OR) : Nat → Bool := List.rec (motive := fun _ => Nat → Bool) (fun m => Nat.beq m (Nat.sub (Nat.pow 2 n) 1)) (fun r _ ih m => bE (Nat.beq (Nat.land r.bf m) r.bf) (bE (Nat.beq (Nat.land (Nat.pow 2 r.i) m) 0) (natK (Nat.lor m (Nat.pow 2 r.i)) ih) false) false) l
def sufB (n : Nat) (l : List OR) : (Nat → Bool) → Bool := List.rec (motive := fun _ => (Nat → Bool) → Bool) (fun k => natK (Nat.sub (Nat.pow 2 n) 1) k) (fun r _ ih k => ih fun m => bE (bE r.eff (Nat.beq (Nat.land (Nat.pow 2 r.i) m) (Nat.pow 2 r.i)) true) (natK (Nat.land r.bf m) k) false) l
def offL (bf : Nat) (l : List Nat) : List Nat := List.rec (motive := fun _ => List Nat) [] (fun k _ ih => bE (Nat.beq (Nat.land (Nat.pow 2 k) bf) 0) (k :: ih) ih) l
def offR (bf : Nat) (l : List OR) : List Oper := List.rec (motive := fun _ => List Oper) [] (fun q _ ih => bE (Nat.beq (Nat.land (Nat.pow 2 q.i) bf) 0) (q.o :: ih) ih) l
def consO (s : PSt) (o : Option (List PSt)) : Option (List PSt) := Option.rec (motive := fun _ => Option (List PSt)) none (fun t => some (s :: t)) o
def mkSt (P : Program) (ops : Array Oper) (l : List OR) : List Nat → List OR → Nat → Option (List PSt) := List.rec (motive := fun _ => List Nat → List OR → Nat → Option (List PSt)) (fun _ _ _ => some [])
  (fun r _ ih news reads RM => bE (Nat.beq (Nat.land (dstM r.o) RM) 0) (match kindOf P r.o.op with
    | .q => consO ⟨r.i, r.o, [], [], false⟩ (ih news reads RM)
    | .r => bE r.o.dst.isSome (bE (Nat.beq (Nat.land (dstM r.o) (bitsOf (r.o.looksAt ops))) 0) (natK (Nat.lor RM (Nat.lor (dstM r.o) (bitsOf (r.o.looksAt ops)))) fun RM' => consO ⟨r.i, r.o, offL r.bf news, [], false⟩ (ih news (r :: reads) RM')) none) none
    | .new => consO ⟨r.i, r.o, [], [], true⟩ (ih (r.i :: news) reads RM)
    | .eff => consO ⟨r.i, r.o, offL r.bf news, offR r.bf reads, false⟩ (ih (offL r.bf news) reads RM)) none) l
def orderE (P : Program) (ops : Array Oper) : Option (List OR) := bE (pwB ops ops.toList 0 0 0 []) (match recsE P ops.size ops.toList 0 0 with
  | some l => natK (effM l) fun EM => some (ordL l EM l 0)
  | none => none) none
def planE (P : Program) (ops : Array Oper) : Option (List PSt) := match orderE P ops with
  | some l => bE (Nat.beq l.length ops.size) (bE (fwdB ops.size l 0) (bE (sufB ops.size l fun _ => true) (mkSt P ops l [] [] 0) none) none) none
  | none => none

def hideC (base : Nat) (l : List Nat) (c : CS) : CS := List.rec (motive := fun _ => CS) c (fun k _ ih => ih.del (Nat.add base k)) l
def backC (base : Nat) (l : List Nat) (c0 c : CS) (k : CS → RR) : RR := List.rec (motive := fun _ => CS → RR) k (fun i _ ih c => Option.rec (motive := fun _ => RR) (Option.rec (motive := fun _ => RR) (ih c) (fun o => ih (c.put (Nat.add base i) o)) (c0.get (Nat.add base i))) (fun _ => no) (c.get (Nat.add base i))) l c
def sameL (ih : AVal → AVal → Bool) : List AVal → List AVal → Bool
  | [], [] => true
  | x :: xs, y :: ys => bE (ih x y) (sameL ih xs ys) false
  | _, _ => false
/-- Are two values the same? -/
def sameV : Nat → AVal → AVal → Bool
  | 0, _, _ => false
  | n + 1, a, b => match a, b with
    | .bool x, .bool y => x == y
    | .int k x, .int j y => decide (k = j) && decide (x = y)
    | .str x, .str y => decide (x = y)
    | .ptr0, .ptr0 => true
    | .ptr i x, .ptr j y => Nat.beq i j && Nat.beq x y
    | .lptr cs x, .lptr ds y => Nat.beq x y && sameL (sameV n) cs ds
    | .list a r x cs, .list b s y ds => a == b && decide (r = s) && Nat.beq x y && sameL (sameV n) cs ds
    | .sl i x m p e, .sl j y u q f => Nat.beq i j && Nat.beq x y && Nat.beq m u && Nat.beq p q && Nat.beq e f
    | .map0, .map0 => true
    | .map i, .map j => Nat.beq i j
    | .func0, .func0 => true
    | .func (.func f) x y, .func (.func g) u v => decide (f = g) && sameL (sameV n) x u && sameL (sameV n) y v
    | .iface0, .iface0 => true
    | .iface t x, .iface u y => decide (t = u) && sameV n x y
    | .agg xs, .agg ys => sameL (sameV n) xs ys
    | .tup xs, .tup ys => sameL (sameV n) xs ys
    | .yld i, .yld j => Nat.beq i j
    | _, _ => false
def reS (P : Program) [i : Env P] (call : CallE) (ops : Array Oper) (fr : FE) (c : CS) (q : Oper) (ih : RR) : RR :=
  guardE ops fr q.guard (oK q.dst fun d => opR q.op P i call fr c 0 fun v _ => bT (sameV 30 v (look d fr)) ih) ih
def reC (P : Program) [Env P] (call : CallE) (ops : Array Oper) (fr : FE) (c : CS) (l : List Oper) (k : RR) : RR := List.rec (motive := fun _ => RR) k (fun q _ ih => reS P call ops fr c q ih) l
def drawS (P : Program) [i : Env P] (call : CallE) (ops : Array Oper) (base : Nat) (s : PSt) (ih : FE → CS → RR) (fr : FE) (c : CS) : RR :=
  Option.rec (motive := fun _ => RR) (guardE ops fr s.o.guard (opR s.o.op P i call fr (hideC base s.hide c) (Nat.add base s.i) fun v c1 => reC P call ops fr c1 s.re (backC base s.hide c c1 fun c2 => ih (dstK fr s.o.dst v) c2)) (ih (dstK fr s.o.dst (.tup [])) c)) (fun _ => no) (bE s.nw (c.get (Nat.add base s.i)) none)
def drawE (P : Program) [Env P] (call : CallE) (ops : Array Oper) (base : Nat) (l : List PSt) : FE → CS → RR := List.rec (motive := fun _ => FE → CS → RR) (fun fr c => .ok (fr, c)) (fun s _ ih => drawS P call ops base s ih) l
def drawR (P : Program) [Env P] (call : CallE) (ops : Array Oper) (base : Nat) (fr : FE) (c : CS) : RR :=
  oK (planE P ops) fun l => drawE P call ops base l fr c

/-! ### Code -/
abbrev CodeE := Code → FE → CS → R (AX × FE × CS)
def cellsO (o : Option EObj) (k : List AVal → Option (Cd × AVal)) : Option (Cd × AVal) := match o with | some (.cells cs) => k cs | _ => none
def resV (P : Program) (A : CS) (fr : FE) (r : ResultVar) : Option (Cd × AVal) := match r with
  | .tmp t => some (cd True, look t fr)
  | .cell a t => match look a fr with
    | .ptr id off => cellsO (A.get id) fun cs => loadA P t cs off
    | _ => none
def resK1 (o : Option (Cd × AVal)) (k : AVal → R (AVal × CS)) : R (AVal × CS) := match o with | some q => bE q.1.b (forceA q.2 k) (.bad []) | none => .bad []
def resE (P : Program) (A : CS) (fr : FE) (rs : List ResultVar) : R (AVal × CS) := match rs with
  | [] => .ok (.tup [], A)
  | [r] => resK1 (resV P A fr r) fun v => .ok (v, A)
  | [r, s] => resK1 (resV P A fr r) fun v => resK1 (resV P A fr s) fun u => .ok (.tup [v, u], A)
  | [r, s, t] => resK1 (resV P A fr r) fun v => resK1 (resV P A fr s) fun u => resK1 (resV P A fr t) fun x => .ok (.tup [v, u, x], A)
  | _ => .bad []
def axR {β : Type} (x : AX) (a : β) (b : Nat → β) (c : β) : β := AX.rec (motive := fun _ => β) a b c x
def axK (P : Program) (fn : Func) (q : AX × FE × CS) : R (AVal × CS) := axR q.1 (resE P q.2.2 q.2.1 fn.results.toList) (fun _ => .bad ["exit"]) (resE P q.2.2 q.2.1 fn.results.toList)
def nameK (fn : Func) (r : R (AVal × CS)) : R (AVal × CS) := R.rec (motive := fun _ => R (AVal × CS)) .ok (fun s => .bad (fn.name :: s)) r
def okF (fn : Func) (c : Code) : Bool := okC fn.ntmps c && !(fn.name == "runtime.NumGoroutine")
def bodyE (P : Program) (run : CodeE) (f : FuncId) (args : List AVal) (A : CS) : R (AVal × CS) :=
  Option.casesOn P.funcs[f]? (.bad ["no func"]) fun fn => Option.casesOn fn.body (.bad ["no body", fn.name]) fun c => bE (okF fn c) (bE (Nat.ble (lenN args) fn.ntmps) (nameK fn (rK (run c (initE args 0) A) (axK P fn))) (.bad ["args", fn.name])) (.bad ["slots", fn.name])
/-- Calls of which another theorem tells what they hand back. -/
class Ov (P : Program) [Env P] where
  ov : FuncId → List AVal → Option AVal
  ok : ∀ f args v, ov f args = some v → ∀ A : Store, callVC P f args A fun v' A' => v' = v ∧ A' = A
def loopK {β : Type} (o : Option EObj) (no : β) (k : LoopState → Option Code → FE → List Nat → Code → Code → β) : β := match o with | some (.loop st pend fr ps a b) => k st pend fr ps a b | _ => no
def stK {β : Type} (st want : LoopState) (no k : β) : β := match st, want with | .ready, .ready => k | .busy, .busy => k | .done, .done => k | _, _ => no
def yieldE (run : CodeE) (l : Nat) (args : List AVal) (A : CS) : R (AVal × CS) := loopK (A.get l) (.bad ["yield"]) fun st _ fr ps assign body => stK st .ready (.bad ["yield"]) (bE (Nat.beq (lenN args) ps.length)
    (rK (run assign (putsE ps args fr) A) fun q => axR q.1
      (loopK (q.2.2.get l) (.bad ["yield"]) fun st pend fr ps as bd => stK st .ready (.bad ["yield"]) (rK (run body q.2.1 (q.2.2.put l (.loop .busy pend fr ps as bd))) fun u =>
        loopK (u.2.2.get l) (.bad ["yield"]) fun _ _ fr ps as bd => axR u.1 (.ok (.bool true, u.2.2.put l (.loop .ready none fr ps as bd))) (fun j => .ok (.bool false, u.2.2.put l (.loop .done (some (.exit j)) fr ps as bd))) (.ok (.bool false, u.2.2.put l (.loop .done (some .ret) fr ps as bd)))))
      (fun _ => .bad ["assign"]) (.bad ["assign"])) (.bad ["yield"]))
def callE (P : Program) [Env P] [O : Ov P] (run : CodeE) : CallE := fun f args A => match f with
  | .func (.func k) first cap => Option.rec (motive := fun _ => R (AVal × CS)) (bodyE P run k (first ++ args ++ cap) A) (fun v => .ok (v, A)) (O.ov k (first ++ args ++ cap))
  | .yld l => yieldE run l args A
  | _ => .bad ["call"]
def regE (P : Program) [Env P] [Ov P] (run : CodeE) (ops : Array Oper) (draw : Bool) (fr : FE) (A : CS) : R (AX × FE × CS) :=
  natK A.next fun n => natK (Nat.add n ops.size) fun m => rK (bT (Nat.ble (Nat.add m 2) 18446744073709551616) (bE draw (drawR P (callE P run) ops n fr ⟨A.t, m⟩) (opsE P (callE P run) ops ops.toList n fr ⟨A.t, m⟩))) fun q => .ok (.normal, q.1, q.2)
def seqE (run : CodeE) (a b : Code) (fr : FE) (A : CS) : R (AX × FE × CS) := rK (run a fr A) fun q => axR q.1 (run b q.2.1 q.2.2) (fun j => .ok (.exit j, q.2)) (.ok (.ret, q.2))
def condE (P : Program) [Env P] (run : CodeE) (x : Operand) (a b : Code) (fr : FE) (A : CS) : R (AX × FE × CS) := condR (opdE P fr x) (run a fr A) (run b fr A)
def blockE (run : CodeE) (id : Nat) (a : Code) (fr : FE) (A : CS) : R (AX × FE × CS) := rK (run a fr A) fun q => axR q.1 (.ok (.normal, q.2)) (fun j => .ok (Bool.casesOn (Nat.beq j id) (.exit j) .normal, q.2)) (.ok (.ret, q.2))
def loopE (run : CodeE) (a : Code) (fr : FE) (A : CS) : R (AX × FE × CS) := rK (run a fr A) fun q => axR q.1 (compK q.2.1 fr fun fr' => run (.loop a) fr' q.2.2) (fun j => .ok (.exit j, q.2)) (.ok (.ret, q.2))
def fnOnly {β : Type} (v : AVal) (no k : β) : β := match v with | .func (.func _) _ _ => k | _ => no
def rangeE (P : Program) [Env P] [Ov P] (run : CodeE) (g : Operand) (ps : Array Tmp) (assign b : Code) (fr : FE) (A : CS) : R (AX × FE × CS) :=
  natK A.next fun l => bE (Nat.ble (Nat.add l 2) 18446744073709551616) (fnOnly (opdE P fr g) (.bad ["range"]) (rK (callE P run (opdE P fr g) [.yld l] (CS.put ⟨A.t, Nat.succ l⟩ l (.loop .ready none fr ps.toList assign b))) fun q => loopK (q.2.get l) (.bad ["range"]) fun st pend fr2 ps2 a2 b2 => (match st with
    | .busy => .bad ["range"]
    | _ => (match pend with
      | none => .ok (.normal, fr, q.2.put l (.loop .exhausted pend fr2 ps2 a2 b2))
      | some (.exit j) => .ok (.exit j, fr, q.2.put l (.loop .exhausted pend fr2 ps2 a2 b2))
      | some .ret => .ok (.ret, fr, q.2.put l (.loop .exhausted pend fr2 ps2 a2 b2))
      | _ => .bad ["range"])))) (.bad ["range"])
def stepR (c : Code) : (P : Program) → (i : Env P) → @Ov P i → CodeE → FE → CS → R (AX × FE × CS) := Code.rec (motive := fun _ => (P : Program) → (i : Env P) → @Ov P i → CodeE → FE → CS → R (AX × FE × CS))
  (fun _ _ _ _ fr A => .ok (.normal, fr, A))
  (fun _ ops d P _ _ run => regE P run ops d)
  (fun a b _ _ _ _ _ run => seqE run a b)
  (fun x a b _ _ P _ _ run => condE P run x a b)
  (fun id a _ _ _ _ run => blockE run id a)
  (fun a _ _ _ _ run => loopE run a)
  (fun g ps assign b _ _ P _ _ run => rangeE P run g ps assign b)
  (fun id _ _ _ _ fr A => .ok (.exit id, fr, A))
  (fun _ _ _ _ _ _ _ _ => .bad ["code"])
  (fun _ _ _ _ _ _ _ => .bad ["code"])
  (fun _ _ _ _ _ _ _ => .bad ["code"])
  (fun _ _ _ _ fr A => .ok (.ret, fr, A))
  (fun _ _ _ _ _ _ _ => .bad ["code"])
  c
def stepC (P : Program) [i : Env P] [o : Ov P] (run : CodeE) (c : Code) : FE → CS → R (AX × FE × CS) := stepR c P i o run
def ex (P : Program) [Env P] [Ov P] (n : Nat) : CodeE := Nat.rec (fun _ _ _ => .bad ["fuel"]) (fun _ ih => stepC P ih) n
def call0 (P : Program) [Env P] [Ov P] (n : Nat) (f : Nat) (args : List AVal) (A : CS) : R (AVal × CS) := bodyE P (ex P n) f args A
end
end Go.Cov
