import PyProof.Rows.All
import Wide.All
import OpenK.AllK
import Wide.FinOn
import HandS.ForMost
import HandS.Deep
import KE.KDictKeyed
import KE.KeyNested
import HandS.Flow
import HandS.Star
import HandS.IsInst
import HandS.TupAny
import KE.LtData
import HandS.Text
import HandS.NoneIn
import HandS.TryOnly
import HandS.Comp
import HandS.MethStar
import HandS.Iter
import HandS.Zip
import HandS.Dict
import HandS.Strs
import KE.GoesNew
import HandS.More
import HandS.DictComp
import KE.SortKeyHeap
import HandS.SortKw
import HandS.Keys
import KE.KDictCopyH
import PyProof.ReprRoads
import PyProof.ReprLen
import PyProof.FitsInt
import HandS.HeadHook4
import HandS.HeadEnd
import HandS.Head0
import HandS.Head1
import HandS.Head2
import HandS.HeadHook1
import HandS.HeadHook2
import PySem.Challenge.RW_openagain_k05_known_rules
set_option Elab.async false
set_option linter.all false
set_option maxRecDepth 100000
/-! VI, the executable part: values, heap, expressions, statements; evaluators by recursors, for the kernel. -/
namespace VI
/-- values; tup, vl carry a bound of the data's depth (0: no plain data); nil, cons are spines -/
inductive U where
  | non | bl (b : Bool) | int (i : Int) | str (n : Nat)
  | nil | cons (a b : U)
  | tup (d : Nat) (s : U) | vl (d : Nat) (s : U) | vd (s : U)
  | ref (k : Nat) | gf (f : Nat) | clo (f : Nat) (cap : U)
/-- objects that change: lists, dicts (keys and values in turn), instances (names and values in turn) -/
inductive VO where
  | lst (s : U) | dct (s : U) | ins (c : Nat) (fs : U)
inductive VL where
  | nil | cons (k : Nat) (o : VO) (r : VL)
inductive VH where
  | mk (nxt : Nat) (l : VL)
inductive VR where
  | one (u : U) (h : VH) | bad (n : Nat)
inductive VS where
  | nil | cons (u : U) (r : VS) | un (r : VS)
inductive VRS where
  | nx (s : VS) (h : VH) | rt (u : U) (h : VH) | bk (s : VS) (h : VH) | ct (s : VS) (h : VH) | bad (n : Nat)
inductive Tri where
  | no | yes | unk
/-- targets -/
inductive VT where
  | var (i : Nat) | tup (l : VT) | nil | cons (a b : VT)
inductive VE where
  | nil | cons (a b : VE) | star (a b : VE)
  | var (i : Nat) | cst (u : U)
  | tup (l : VE) | lst (l : VE) | vls (l : VE)
  | dsp (l : VE) | vds (l : VE) | dkv (k v r : VE) | dst (a r : VE) | dnil
  | bin (op : Nat) (a b : VE) | cmp (op : Nat) (a b : VE) | cmpI (op : Nat) (a b : VE) | chain (o1 o2 : Nat) (a b c : VE)
  | and (a b : VE) | or (a b : VE) | not (a : VE) | ife (c a b : VE)
  | fld (a : VE) (f : Nat) | idx (a b : VE) | slc (a lo hi : VE) | nop
  | call (f : Nat) (args : VE) | meth (m : Nat) (a : VE) (args : VE) | mk (c : Nat) (args : VE) | callv (f : VE) (args : VE)
  | bm (m : Nat) (a : VE) (args : VE) | bc (b : Nat) (args : VE) | isi (m : Nat) (a : VE)
  | comp (cl : VE) | compH (cl : VE) | dcomp (cl : VE) | dcompH (cl : VE)
  | cfor (t : VT) (it : VE) (r : VE) | cif (c : VE) (r : VE) | cend (e : VE) | cend2 (k v : VE) | wip (i : Nat) (r : VE)
  | enum (a : VE) | zip (a b : VE) | rng (a b : VE) | items (a : VE) | vals (a : VE)
  | lam (f : Nat) (caps : VE) | lim (l : VE)
inductive VSt where
  | nil | cons (a b : VSt) | asg (t : VT) (e : VE) | asgF (o : VE) (f : Nat) (e : VE) | asgI (o i e : VE) | del (o i : VE) | ex (e : VE) | ret (e : VE)
  | iff (c : VE) (a b : VSt) | for_ (t : VT) (it : VE) (b : VSt) | while_ (c : VE) (b : VSt) | raise | pass | brk | cnt
def vB : Nat := 2097152
noncomputable section
def VR.bind (r : VR) (f : U → VH → VR) : VR := VR.rec f VR.bad r
def VL.find {α : Type} (l : VL) (i : Nat) (z : α) (f : VO → α) : α :=
  VL.rec (motive := fun _ => α) z (fun k o _ ih => Bool.rec ih (f o) (Nat.beq k i)) l
def VL.set (l : VL) (i : Nat) (o' : VO) : VL :=
  VL.rec (motive := fun _ => VL) .nil (fun k o r ih => Bool.rec (.cons k o ih) (.cons k o' r) (Nat.beq k i)) l
def VH.put (h : VH) (i : Nat) (o : VO) : VH := VH.rec (fun n l => .mk n (l.set i o)) h
def VH.new (h : VH) (o : VO) (f : Nat → VH → VR) : VR := VH.rec (fun n l => f n (.mk (Nat.succ n) (.cons n o l))) h
def VH.at {α : Type} (h : VH) (i : Nat) (z : α) (f : VO → α) : α := VH.rec (fun _ l => l.find i z f) h
/-- recursion over a spine: everything that is no cons ends it -/
def U.sp {α : Type} (z : α) (f : U → U → α → α) (u : U) : α := U.rec (motive := fun _ => α) z (fun _ => z) (fun _ => z) (fun _ => z) z (fun a b _ ih => f a b ih) (fun _ _ _ => z) (fun _ _ _ => z) (fun _ _ => z) (fun _ => z) (fun _ => z) (fun _ _ _ => z) u
def U.len (u : U) : Nat := U.sp 0 (fun _ _ ih => Nat.succ ih) u
def U.app (a b : U) : U := U.sp b (fun x _ ih => .cons x ih) a
def U.cs {α : Type} (u : U) (z : α) (f : U → U → α) : α := U.sp z (fun a b _ => f a b) u
def U.nth {α : Type} (u : U) (n : Nat) (z : α) (f : U → α) : α := U.sp (α := Nat → α) (fun _ => z) (fun a _ ih n => Nat.rec (f a) (fun m _ => ih m) n) u n
def U.take (u : U) (n : Nat) : U := U.sp (α := Nat → U) (fun _ => .nil) (fun a _ ih n => Nat.rec .nil (fun m _ => .cons a (ih m)) n) u n
def U.drop (u : U) (n : Nat) : U := U.sp (α := Nat → U) (fun _ => .nil) (fun a b ih n => Nat.rec (.cons a b) (fun m _ => ih m) n) u n
def U.setn (u : U) (n : Nat) (v : U) : U := U.sp (α := Nat → U) (fun _ => .nil) (fun a b ih n => Nat.rec (.cons v b) (fun m _ => .cons a (ih m)) n) u n
def U.revA (u : U) (c : U) : U := U.sp (α := U → U) (fun c => c) (fun a _ ih c => ih (.cons a c)) u c
def beqI (i j : Int) : Bool := Int.rec (fun a => Int.rec (fun b => Nat.beq a b) (fun _ => false) j) (fun a => Int.rec (fun _ => false) (fun b => Nat.beq a b) j) i
def bltI (i j : Int) : Bool := Int.rec (fun a => Int.rec (fun b => Nat.ble (Nat.succ a) b) (fun _ => false) j) (fun a => Int.rec (fun _ => true) (fun b => Nat.ble (Nat.succ b) a) j) i
def b2i (b : Bool) : Int := Bool.rec (.ofNat 0) (.ofNat 1) b
def tri (b : Bool) : Tri := Bool.rec .no .yes b
def bnot (b : Bool) : Bool := Bool.rec true false b
def beqB (b c : Bool) : Bool := Bool.rec (bnot c) c b
/-- case analysis; data: by kind; the others together -/
def U.cases {α : Type} (u : U) (non : α) (bl : Bool → α) (int : Int → α) (str : Nat → α) (tup vl : Nat → U → α) (vd : U → α) (ref : Nat → α) (z : α) : α :=
  U.rec (motive := fun _ => α) non bl int str z (fun _ _ _ _ => z) (fun d s _ => tup d s) (fun d s _ => vl d s) (fun s _ => vd s) ref (fun _ => z) (fun _ _ _ => z) u
def U.caseRef {α : Type} (u : U) (z : α) (f : Nat → α) : α := u.cases z (fun _ => z) (fun _ => z) (fun _ => z) (fun _ _ => z) (fun _ _ => z) (fun _ => z) f z
def U.caseInt {α : Type} (u : U) (z : α) (f : Int → α) : α := u.cases z (fun _ => z) f (fun _ => z) (fun _ _ => z) (fun _ _ => z) (fun _ => z) (fun _ => z) z
/-- no, if the depth is known -/
def dno (d : Nat) : Tri := Nat.rec .unk (fun _ _ => .no) d
/-- equality of plain data; unk where anything else comes in -/
def eqU (a : U) : U → Tri :=
  U.rec (motive := fun _ => U → Tri)
    (fun y => y.cases .yes (fun _ => .no) (fun _ => .no) (fun _ => .no) (fun d _ => dno d) (fun d _ => dno d) (fun _ => .unk) (fun _ => .unk) .unk)
    (fun b y => y.cases .no (fun c => tri (beqB b c)) (fun i => tri (beqI (b2i b) i)) (fun _ => .no) (fun d _ => dno d) (fun d _ => dno d) (fun _ => .unk) (fun _ => .unk) .unk)
    (fun i y => y.cases .no (fun c => tri (beqI i (b2i c))) (fun j => tri (beqI i j)) (fun _ => .no) (fun d _ => dno d) (fun d _ => dno d) (fun _ => .unk) (fun _ => .unk) .unk)
    (fun n y => y.cases .no (fun _ => .no) (fun _ => .no) (fun m => tri (Nat.beq n m)) (fun d _ => dno d) (fun d _ => dno d) (fun _ => .unk) (fun _ => .unk) .unk)
    (fun y => y.cs .yes (fun _ _ => .no))
    (fun _ _ iha ihb y => y.cs .no (fun c d => Tri.rec .no (ihb d) .unk (iha c)))
    (fun p s ih y => Nat.rec .unk (fun _ _ => y.cases .no (fun _ => .no) (fun _ => .no) (fun _ => .no) (fun q t => Nat.rec .unk (fun _ _ => ih t) q) (fun d _ => dno d) (fun _ => .unk) (fun _ => .unk) .unk) p)
    (fun p s ih y => Nat.rec .unk (fun _ _ => y.cases .no (fun _ => .no) (fun _ => .no) (fun _ => .no) (fun d _ => dno d) (fun q t => Nat.rec .unk (fun _ _ => ih t) q) (fun _ => .unk) (fun _ => .unk) .unk) p)
    (fun _ _ _ => .unk) (fun _ _ => .unk) (fun _ _ => .unk) (fun _ _ _ _ => .unk) a
/-- the depth of data as an item; 0: no data -/
def dpI (a : U) : Nat := a.cases 1 (fun _ => 1) (fun _ => 1) (fun _ => 1) (fun d _ => Nat.rec 0 (fun e _ => Nat.succ (Nat.succ e)) d) (fun d _ => Nat.rec 0 (fun e _ => Nat.succ (Nat.succ e)) d) (fun _ => 0) (fun _ => 0) 0
def maxN (a b : Nat) : Nat := Bool.rec a b (Nat.ble a b)
def dpC (x y : Nat) : Nat := Nat.rec 0 (fun _ _ => Nat.rec 0 (fun _ _ => maxN x y) y) x
def dpS (s : U) : Nat := U.sp 1 (fun a _ ih => dpC (dpI a) ih) s
def dpL (n : Nat) : Nat := Bool.rec 0 n (Nat.ble n 50)
def mkT (s : U) : U := .tup (dpL (dpS s)) s
def mkL (s : U) : U := .vl (dpL (dpS s)) s
/-- the signs of a text by its number, ahead of others -/
def digs (n : Nat) (acc : U) : U :=
  Nat.rec (motive := fun _ => Nat → U → U) (fun _ a => a) (fun _ ih n a => Bool.rec (ih (Nat.div (Nat.pred n) vB) (.cons (.int (.ofNat (Nat.mod (Nat.pred n) vB))) a)) a (Nat.beq n 0)) 1000000 n acc
def charsOf (n : Nat) : U :=
  Nat.rec (motive := fun _ => Nat → U → U) (fun _ a => a) (fun _ ih n a => Bool.rec (ih (Nat.div (Nat.pred n) vB) (.cons (.str (Nat.succ (Nat.mod (Nat.pred n) vB))) a)) a (Nat.beq n 0)) 1000000 n .nil
def slen (n : Nat) : Nat :=
  Nat.rec (motive := fun _ => Nat → Nat → Nat) (fun _ a => a) (fun _ ih n a => Bool.rec (ih (Nat.div (Nat.pred n) vB) (Nat.succ a)) a (Nat.beq n 0)) 1000000 n 0
/-- lists of numbers by order -/
def ltL (a b : U) : Bool := U.sp (α := U → Bool) (fun y => y.cs false (fun _ _ => true)) (fun a _ ih y => y.cs false (fun c d => a.caseInt false fun i => c.caseInt false fun j => Bool.rec (bltI i j) (ih d) (beqI i j))) a b
def ltU (a : U) : U → Tri :=
  U.rec (motive := fun _ => U → Tri)
    (fun _ => .unk) (fun _ _ => .unk)
    (fun i y => y.caseInt .unk (fun j => tri (bltI i j)))
    (fun n y => y.cases .unk (fun _ => .unk) (fun _ => .unk) (fun m => tri (ltL (digs n .nil) (digs m .nil))) (fun _ _ => .unk) (fun _ _ => .unk) (fun _ => .unk) (fun _ => .unk) .unk)
    (fun y => y.cs .no (fun _ _ => .yes))
    (fun a _ iha ihb y => y.cs .no (fun c d => Tri.rec (iha c) (ihb d) .unk (eqU a c)))
    (fun p _ ih y => Nat.rec .unk (fun _ _ => y.cases .unk (fun _ => .unk) (fun _ => .unk) (fun _ => .unk) (fun q t => Nat.rec .unk (fun _ _ => ih t) q) (fun _ _ => .unk) (fun _ => .unk) (fun _ => .unk) .unk) p)
    (fun _ _ _ _ => .unk) (fun _ _ _ => .unk) (fun _ _ => .unk) (fun _ _ => .unk) (fun _ _ _ _ => .unk) a
/-- alike: place by place of one kind -/
def alU (a : U) : U → Bool :=
  U.rec (motive := fun _ => U → Bool)
    (fun y => y.cases true (fun _ => false) (fun _ => false) (fun _ => false) (fun _ _ => false) (fun _ _ => false) (fun _ => false) (fun _ => false) false)
    (fun _ y => y.cases false (fun _ => true) (fun _ => false) (fun _ => false) (fun _ _ => false) (fun _ _ => false) (fun _ => false) (fun _ => false) false)
    (fun _ y => y.cases false (fun _ => false) (fun _ => true) (fun _ => false) (fun _ _ => false) (fun _ _ => false) (fun _ => false) (fun _ => false) false)
    (fun _ y => y.cases false (fun _ => false) (fun _ => false) (fun _ => true) (fun _ _ => false) (fun _ _ => false) (fun _ => false) (fun _ => false) false)
    (fun _ => true)
    (fun _ _ iha ihb y => y.cs true (fun c d => Bool.rec false (ihb d) (iha c)))
    (fun _ _ ih y => y.cases false (fun _ => false) (fun _ => false) (fun _ => false) (fun _ t => ih t) (fun _ _ => false) (fun _ => false) (fun _ => false) false)
    (fun _ _ ih y => y.cases false (fun _ => false) (fun _ => false) (fun _ => false) (fun _ _ => false) (fun _ t => ih t) (fun _ => false) (fun _ => false) false)
    (fun _ _ _ => false) (fun _ _ => false) (fun _ _ => false) (fun _ _ _ _ => false) a
/-- .. of ints, texts, and tuples that are alike -/
def ltT (a b : U) : Tri := Bool.rec .unk (ltU a b) (alU a b)
/-- .. of ints and texts -/
def ltA (a b : U) : Tri := a.cases .unk (fun _ => .unk) (fun _ => ltU a b) (fun _ => ltU a b) (fun _ _ => .unk) (fun _ _ => .unk) (fun _ => .unk) (fun _ => .unk) .unk
/-! ### dicts: keys and values in turn -/
/-- two by two -/
def U.pr {α : Type} (z : α) (f : U → U → U → α → α) (u : U) : α :=
  U.sp (α := Bool → U → α) (fun _ _ => z) (fun a r ih c k => Bool.rec (ih true a) (f k a r (ih false .nil)) c) u false .nil
def dget {α : Type} (d x : U) (unk absent : α) (f : U → α) : α := U.pr absent (fun k v _ ih => Tri.rec ih (f v) unk (eqU k x)) d
def dput (d x y : U) : U := U.pr (.cons x (.cons y .nil)) (fun k v r ih => Tri.rec (.cons k (.cons v ih)) (.cons k (.cons y r)) .nil (eqU k x)) d
def ddel (d x : U) : U := U.pr .nil (fun k v r ih => Tri.rec (.cons k (.cons v ih)) r .nil (eqU k x)) d
def dkeys (d : U) : U := U.pr .nil (fun k _ _ ih => .cons k ih) d
def dvals (d : U) : U := U.pr .nil (fun _ v _ ih => .cons v ih) d
def ditems (d : U) : U := U.pr .nil (fun k v _ ih => .cons (mkT (.cons k (.cons v .nil))) ih) d
def dmerge (a d : U) : U := U.pr (α := U → U) (fun acc => acc) (fun k v _ ih acc => ih (dput acc k v)) d a
def dlen (d : U) : Nat := U.pr 0 (fun _ _ _ ih => Nat.succ ih) d
/-- an item of a key that is a tuple -/
def keyI (a : U) : Bool := U.rec (motive := fun _ => Bool) true (fun _ => true) (fun _ => true) (fun _ => true) true (fun _ _ ia ib => Bool.rec false ib ia) (fun _ _ i => i) (fun _ _ _ => false) (fun _ _ => false) (fun _ => false) (fun _ => false) (fun _ _ _ => false) a
/-- 1: an int, a text; 2: a tuple that is a key; 0: else -/
def kkind (x : U) : Nat := x.cases 0 (fun _ => 0) (fun _ => 1) (fun _ => 1) (fun d s => Nat.rec 0 (fun _ _ => Bool.rec 0 (Bool.rec 0 2 (keyI s)) (Nat.ble d 8)) d) (fun _ _ => 0) (fun _ => 0) (fun _ => 0) 0
/-- x can be asked of the dict -/
def dOk (d x : U) : Bool := Nat.rec false (fun m _ => d.cs true (fun k _ => Nat.beq (kkind k) (Nat.succ m))) (kkind x)
def dgetC {α : Type} (d x : U) (unk absent : α) (f : U → α) : α := Bool.rec unk (dget d x unk absent f) (dOk d x)
def dputC {α : Type} (d x y : U) (z : α) (f : U → α) : α := Bool.rec z (Bool.rec z (dget d x z (f (dput d x y)) (fun _ => f (dput d x y))) (Nat.ble (dlen d) 100000)) (dOk d x)
/-- a dict of texts or ints, or an empty one -/
def dPl (d : U) : Bool := d.cs true (fun k _ => Nat.beq (kkind k) 1)
/-- a dict that may be copied: texts or ints for keys, or one key -/
def dcpOk (d : U) : Bool := d.cs true (fun k r => r.cs false (fun _ q => q.cs true (fun _ _ => Nat.beq (kkind k) 1)))
/-- fields of an instance -/
def fget {α : Type} (d : U) (f : Nat) (z : α) (g : U → α) : α :=
  U.pr z (fun k v _ ih => k.cases z (fun _ => z) (fun _ => z) (fun n => Bool.rec ih (g v) (Nat.beq n f)) (fun _ _ => z) (fun _ _ => z) (fun _ => z) (fun _ => z) z) d
def fput (d : U) (f : Nat) (y : U) : U :=
  U.pr (.cons (.str f) (.cons y .nil)) (fun k v r ih => k.cases .nil (fun _ => .nil) (fun _ => .nil) (fun n => Bool.rec (.cons k (.cons v ih)) (.cons k (.cons y r)) (Nat.beq n f)) (fun _ _ => .nil) (fun _ _ => .nil) (fun _ => .nil) (fun _ => .nil) .nil) d
/-! ### what is walked, sizes, truth -/
/-- the items of a list, a tuple: fl; a text: its signs; a dict: its keys -/
def U.spine {α : Type} (u : U) (h : VH) (z : α) (f : U → α) : α :=
  u.cases z (fun _ => z) (fun _ => z) (fun n => f (charsOf n)) (fun _ s => f s) (fun _ s => f s) (fun s => f (dkeys s))
    (fun k => h.at k z (fun o => VO.rec f (fun s => f (dkeys s)) (fun _ _ => z) o)) z
/-- what a loop walks: values, or a list that may change -/
def U.walk {α : Type} (u : U) (h : VH) (z : α) (f : U → α) (g : Nat → α) : α :=
  u.cases z (fun _ => z) (fun _ => z) (fun n => f (charsOf n)) (fun _ s => f s) (fun _ s => f s) (fun _ => z)
    (fun k => h.at k z (fun o => VO.rec (fun _ => g k) (fun _ => z) (fun _ _ => z) o)) z
/-- the items of a list or a tuple alone -/
def U.seq {α : Type} (u : U) (h : VH) (z : α) (f : U → α) : α :=
  u.cases z (fun _ => z) (fun _ => z) (fun _ => z) (fun _ s => f s) (fun _ s => f s) (fun _ => z)
    (fun k => h.at k z (fun o => VO.rec f (fun _ => z) (fun _ _ => z) o)) z
def U.size {α : Type} (u : U) (h : VH) (z : α) (f : Nat → α) : α :=
  u.cases z (fun _ => z) (fun _ => z) (fun n => f (slen n)) (fun _ s => f s.len) (fun _ s => f s.len) (fun s => f (dlen s))
    (fun k => h.at k z (fun o => VO.rec (fun s => f s.len) (fun s => f (dlen s)) (fun _ _ => z) o)) z
def U.true? {α : Type} (u : U) (h : VH) (z : α) (f t : α) : α :=
  u.cases f (fun b => Bool.rec f t b) (fun i => Bool.rec t f (beqI i (.ofNat 0))) (fun n => Bool.rec t f (Nat.beq n 0))
    (fun _ s => s.cs f (fun _ _ => t)) (fun _ s => s.cs f (fun _ _ => t)) (fun _ => z)
    (fun k => h.at k z (fun o => VO.rec (fun s => s.cs f (fun _ _ => t)) (fun _ => z) (fun _ _ => z) o)) z
def U.dict {α : Type} (u : U) (h : VH) (z : α) (f : U → α) : α :=
  u.cases z (fun _ => z) (fun _ => z) (fun _ => z) (fun _ _ => z) (fun _ _ => z) f (fun k => h.at k z (fun o => VO.rec (fun _ => z) f (fun _ _ => z) o)) z
def U.list {α : Type} (u : U) (h : VH) (z : α) (f : U → α) : α :=
  u.cases z (fun _ => z) (fun _ => z) (fun _ => z) (fun _ _ => z) (fun _ s => f s) (fun _ => z) (fun k => h.at k z (fun o => VO.rec f (fun _ => z) (fun _ _ => z) o)) z
/-- a list that changes, as a value -/
def U.look (u : U) (h : VH) : U := u.caseRef u (fun k => h.at k u (fun o => VO.rec (fun s => mkL s) (fun _ => u) (fun _ _ => u) o))
/-- not too many -/
def few {α : Type} (s : U) (f : α) (z : α) : α := Bool.rec z f (Nat.ble s.len 100000)
def rb (b : Bool) (h : VH) : VR := .one (.bl b) h
def triR (t : Tri) (h : VH) : VR := Tri.rec (rb false h) (rb true h) (.bad 2) t
def ntriR (t : Tri) (h : VH) : VR := Tri.rec (rb true h) (rb false h) (.bad 2) t
def eqH (a b : U) (h : VH) : Tri := eqU (a.look h) (b.look h)
def inSp (s x : U) : Tri := U.sp (α := Tri) .no (fun a _ ih => Tri.rec ih .yes .unk (eqU a x)) s
/-- x in a list or tuple of data -/
def inD (d : Nat) (s x : U) : Tri := Nat.rec .unk (fun _ _ => Nat.rec .unk (fun _ _ => inSp s x) (dpI x)) d
def inU (x s : U) (h : VH) : Tri :=
  s.cases .unk (fun _ => .unk) (fun _ => .unk)
    (fun n => x.cases .unk (fun _ => .unk) (fun _ => .unk) (fun m => Bool.rec .unk (Bool.rec (inSp (charsOf n) x) .unk (Nat.beq m 0)) (Nat.ble m vB)) (fun _ _ => .unk) (fun _ _ => .unk) (fun _ => .unk) (fun _ => .unk) .unk)
    (fun d s => inD d s x) (fun d s => inD d s x) (fun s => dgetC s x .unk .no (fun _ => .yes))
    (fun k => h.at k .unk (fun o => VO.rec (fun s => inD (dpL (dpS s)) s x) (fun s => dgetC s x .unk .no (fun _ => .yes)) (fun _ _ => .unk) o)) .unk
def isNone (u : U) : Bool := u.cases true (fun _ => false) (fun _ => false) (fun _ => false) (fun _ _ => false) (fun _ _ => false) (fun _ => false) (fun _ => false) false
/-- pick by a small number -/
def sel {α : Type} (n : Nat) (l : List α) (z : α) : α := List.rec (motive := fun _ => Nat → α) (fun _ => z) (fun a _ ih n => Nat.rec a (fun m _ => ih m) n) l n
/-- a is None -/
def isN (a b : U) : Tri := Bool.rec .unk (tri (isNone a)) (isNone b)
/-- a is b, bools -/
def isB (a b : U) : Tri := b.cases .unk (fun c => a.cases .no (fun d => tri (beqB d c)) (fun _ => .no) (fun _ => .no) (fun _ _ => .no) (fun _ _ => .no) (fun _ => .no) (fun _ => .no) .unk) (fun _ => .unk) (fun _ => .unk) (fun _ _ => .unk) (fun _ _ => .unk) (fun _ => .unk) (fun _ => .unk) .unk
def U.isNil (u : U) : Bool := U.rec (motive := fun _ => Bool) false (fun _ => false) (fun _ => false) (fun _ => false) true (fun _ _ _ _ => false) (fun _ _ _ => false) (fun _ _ _ => false) (fun _ _ => false) (fun _ => false) (fun _ => false) (fun _ _ _ => false) u
/-- one and the same, with all kinds -/
def same (a : U) : U → Bool :=
  U.rec (motive := fun _ => U → Bool)
    (fun y => y.cases true (fun _ => false) (fun _ => false) (fun _ => false) (fun _ _ => false) (fun _ _ => false) (fun _ => false) (fun _ => false) false)
    (fun b y => y.cases false (fun c => beqB b c) (fun _ => false) (fun _ => false) (fun _ _ => false) (fun _ _ => false) (fun _ => false) (fun _ => false) false)
    (fun i y => y.cases false (fun _ => false) (fun j => Bool.rec false (Bool.rec false (beqI i j) (bltI i (.ofNat 1000000000000))) (bltI (.negSucc 999999999999) i)) (fun _ => false) (fun _ _ => false) (fun _ _ => false) (fun _ => false) (fun _ => false) false)
    (fun n y => y.cases false (fun _ => false) (fun _ => false) (fun m => Nat.beq n m) (fun _ _ => false) (fun _ _ => false) (fun _ => false) (fun _ => false) false)
    (fun y => y.isNil)
    (fun _ _ ia ib y => y.cs false (fun c d => Bool.rec false (ib d) (ia c)))
    (fun p _ ih y => Nat.rec false (fun _ _ => y.cases false (fun _ => false) (fun _ => false) (fun _ => false) (fun q t => Nat.rec false (fun _ _ => ih t) q) (fun _ _ => false) (fun _ => false) (fun _ => false) false) p)
    (fun p _ ih y => Nat.rec false (fun _ _ => y.cases false (fun _ => false) (fun _ => false) (fun _ => false) (fun _ _ => false) (fun q t => Nat.rec false (fun _ _ => ih t) q) (fun _ => false) (fun _ => false) false) p)
    (fun _ _ _ => false) (fun _ _ => false) (fun _ _ => false) (fun _ _ _ _ => false) a
/-- no shorter than the text of repr -/
def repW (a : U) : Nat := U.rec (motive := fun _ => Nat) 4 (fun _ => 5) (fun _ => 20) (fun n => Nat.add (Nat.mul 10 (slen n)) 2) 3 (fun _ _ ia ib => Nat.add (Nat.add ia 2) ib) (fun _ _ i => i) (fun _ _ i => i) (fun _ i => i) (fun _ => 0) (fun _ => 0) (fun _ _ i => i) a
/-- a tuple or a list that is data -/
def seqD (a : U) : Bool := a.cases false (fun _ => false) (fun _ => false) (fun _ => false) (fun d _ => Nat.rec false (fun _ _ => true) d) (fun d _ => Nat.rec false (fun _ _ => true) d) (fun _ => false) (fun _ => false) false
/-- repr(a) is repr(b): of tuples and lists that never change -/
def repU (a b : U) (_ : VH) : Tri := Bool.rec .unk (Bool.rec .unk (Bool.rec .unk .yes (Nat.ble (repW a) 1000000)) (same a b)) (seqD a)
/-- 0 ==, 1 !=, 2 <, 3 <=, 4 >, 5 >=, 6 in, 7 not in, 8 is None, 9 is not None, 10 is, 11 is not (bools), 12 their reprs are one, 13 not -/
def cmpU (op : Nat) (a b : U) (h : VH) : VR :=
  sel op [triR (eqH a b h) h, ntriR (eqH a b h) h, triR (ltT a b) h, ntriR (ltA b a) h, triR (ltA b a) h, ntriR (ltA a b) h, triR (inU a b h) h, ntriR (inU a b h) h, triR (isN a b) h, ntriR (isN a b) h, triR (isB a b) h, ntriR (isB a b) h, triR (repU a b h) h, ntriR (repU a b h) h] (.bad 5)
def rep (n : Nat) (s : U) : U := Nat.rec .nil (fun _ ih => s.app ih) n
def intOp (f : Int → Int → Int) (a b : U) (h : VH) : VR := a.caseInt (.bad 7) fun i => b.caseInt (.bad 7) fun j => .one (.int (f i j)) h
/-- 0 +, 1 -, 2 *, 3 //, 4 % -/
def binU (op : Nat) (a b : U) (h : VH) : VR :=
  sel op [
    a.cases (.bad 6) (fun _ => .bad 6) (fun i => b.caseInt (.bad 6) fun j => .one (.int (Int.add i j)) h)
      (fun m => .bad 6)
      (fun _ s => b.cases (.bad 6) (fun _ => .bad 6) (fun _ => .bad 6) (fun _ => .bad 6) (fun _ t => (fun w => few w (.one (mkT w) h) (.bad 142)) (s.app t)) (fun _ _ => .bad 6) (fun _ => .bad 6) (fun _ => .bad 6) (.bad 6))
      (fun _ s => b.list h (.bad 6) fun t => (fun w => few w (.one (mkL w) h) (.bad 142)) (s.app t)) (fun _ => .bad 6)
      (fun _ => a.list h (.bad 6) fun s => b.list h (.bad 6) fun t => (fun w => few w (.one (mkL w) h) (.bad 142)) (s.app t)) (.bad 6),
    intOp Int.sub a b h,
    a.list h (intOp Int.mul a b h) (fun s => b.caseInt (.bad 6) fun j => (fun w => few w (.one (mkL w) h) (.bad 142)) (rep j.toNat s)),
    intOp Int.fdiv a b h, intOp Int.fmod a b h] (.bad 7)
/-! ### slots, targets -/
def VS.get {α : Type} (s : VS) (i : Nat) (z : α) (f : U → α) : α := VS.rec (motive := fun _ => Nat → α) (fun _ => z) (fun u _ ih i => Nat.rec (f u) (fun m _ => ih m) i) (fun _ ih i => Nat.rec z (fun m _ => ih m) i) s i
def VS.set (s : VS) (i : Nat) (v : U) : VS := VS.rec (motive := fun _ => Nat → VS) (fun _ => .nil) (fun u r ih i => Nat.rec (.cons v r) (fun m _ => .cons u (ih m)) i) (fun r ih i => Nat.rec (.cons v r) (fun m _ => .un (ih m)) i) s i
def VS.unset (s : VS) (i : Nat) : VS := VS.rec (motive := fun _ => Nat → VS) (fun _ => .nil) (fun u r ih i => Nat.rec (.un r) (fun m _ => .cons u (ih m)) i) (fun r ih i => Nat.rec (.un r) (fun m _ => .un (ih m)) i) s i
def VS.of (u : U) (n : Nat) : VS := U.sp (α := VS) (Nat.rec .nil (fun _ ih => .un ih) n) (fun a _ ih => .cons a ih) u
/-- k: what follows -/
def asgT {α : Type} (z : α) (t : VT) : U → VS → VH → (VS → α) → α :=
  VT.rec (motive := fun _ => U → VS → VH → (VS → α) → α)
    (fun i u σ _ k => k (σ.set i u))
    (fun _ ih u σ h k => u.cases z (fun _ => z) (fun _ => z) (fun _ => z) (fun _ s => ih s σ h k) (fun _ s => ih s σ h k) (fun _ => z) (fun _ => z) z)
    (fun u σ _ k => u.cs (k σ) (fun _ _ => z))
    (fun _ _ iha ihb u σ h k => u.cs z (fun x r => iha x σ h (fun σ => ihb r σ h k))) t
/-! ### built-in defs -/
def insC (d x y : U) : (U → VR) → VR := U.pr (α := (U → VR) → VR) (fun k => k (.cons x (.cons y .nil))) (fun a b r ih k => Tri.rec (ih (fun t => k (.cons a (.cons b t)))) (k (.cons x (.cons y (.cons a (.cons b r))))) (.bad 43) (ltU x a)) d
/-- x is alike to all keys -/
def alS (d x : U) : Bool := U.pr true (fun k _ _ ih => Bool.rec false (Bool.rec false ih (alU x k)) (alU k x)) d
/-- it can be sorted by it: a text, an int, a tuple with an item -/
def srt1 (x : U) : Nat := x.cases 0 (fun _ => 0) (fun _ => 1) (fun _ => 1) (fun d s => Nat.rec 0 (fun _ _ => s.cs 0 (fun _ _ => 2)) d) (fun _ _ => 0) (fun _ => 0) (fun _ => 0) 0
def srtOk (d x : U) : Bool := Nat.rec false (fun m _ => Bool.rec false (Bool.rec false (d.cs true (fun k _ => Nat.beq (srt1 k) (Nat.succ m))) (alU x x)) (alS d x)) (srt1 x)
/-- put in by its key -/
def insK (d x y : U) (f : U → VR) : VR := Bool.rec (.bad 43) (insC d x y f) (srtOk d x)
def sortS (s : U) (h : VH) : VR := few s (U.sp (α := U → VR) (fun acc => .one (mkL (dvals acc)) h) (fun a _ ih acc => insK acc a a ih) s .nil) (.bad 43)
def sortK (cf : U → VH → VR) (s : U) : U → VH → VR := U.sp (α := U → VH → VR) (fun acc h => .one (mkL (dvals acc)) h) (fun a _ ih acc h => VR.bind (cf (.cons a .nil) h) (fun k h => insK acc k a (fun acc => ih acc h))) s
/-- all, any of bools -/
def allT (s : U) (h : VH) : VR := triR (U.sp (α := Tri) .yes (fun a _ ih => a.cases .unk (fun b => Tri.rec .no (Bool.rec .no .yes b) .unk ih) (fun _ => .unk) (fun _ => .unk) (fun _ _ => .unk) (fun _ _ => .unk) (fun _ => .unk) (fun _ => .unk) .unk) s) h
def anyT (s : U) (h : VH) : VR := triR (U.sp (α := Tri) .no (fun a _ ih => a.cases .unk (fun b => Tri.rec (Bool.rec .no .yes b) .yes .unk ih) (fun _ => .unk) (fun _ => .unk) (fun _ _ => .unk) (fun _ _ => .unk) (fun _ => .unk) (fun _ => .unk) .unk) s) h
def normIx {α : Type} (i : Int) (n : Nat) (z : α) (f : Nat → α) : α :=
  Int.rec (fun k => Bool.rec z (f k) (Nat.ble (Nat.succ k) n)) (fun k => Bool.rec z (f (Nat.sub n (Nat.succ k))) (Nat.ble (Nat.succ k) n)) i
def minN (a b : Nat) : Nat := Bool.rec b a (Nat.ble a b)
def clampIx (i : Int) (n : Nat) : Nat := Int.rec (fun k => minN k n) (fun k => Nat.sub n (Nat.succ k)) i
def rngS (n : Nat) (i : Int) : U := Nat.rec (motive := fun _ => Int → U) (fun _ => .nil) (fun _ ih i => .cons (.int i) (ih (Int.add i (.ofNat 1)))) n i
def smallI (i : Int) : Bool := Int.rec (fun n => Nat.ble n 1000000) (fun n => Nat.ble n 1000000) i
def enumS (s : U) : U := U.sp (α := Nat → U) (fun _ => .nil) (fun a _ ih i => .cons (mkT (.cons (.int (.ofNat i)) (.cons a .nil))) (ih (Nat.succ i))) s 0
def zipS (s t : U) : U := U.sp (α := U → U) (fun _ => .nil) (fun a _ ih t => t.cs .nil (fun b r => .cons (mkT (.cons a (.cons b .nil))) (ih r))) s t
/-- two tuples, two lists that never change -/
def zipU (x y : U) (h : VH) : VR :=
  x.cases (.bad 111) (fun _ => .bad 111) (fun _ => .bad 111) (fun _ => .bad 111)
    (fun _ s => y.cases (.bad 111) (fun _ => .bad 111) (fun _ => .bad 111) (fun _ => .bad 111) (fun _ t => .one (mkL (zipS s t)) h) (fun _ _ => .bad 111) (fun _ => .bad 111) (fun _ => .bad 111) (.bad 111))
    (fun _ s => y.cases (.bad 111) (fun _ => .bad 111) (fun _ => .bad 111) (fun _ => .bad 111) (fun _ _ => .bad 111) (fun _ t => .one (mkL (zipS s t)) h) (fun _ => .bad 111) (fun _ => .bad 111) (.bad 111))
    (fun _ => .bad 111) (fun _ => .bad 111) (.bad 111)
def pairsD (s : U) : U := U.sp (α := U → U) (fun acc => acc) (fun a _ ih acc => a.cases .nil (fun _ => .nil) (fun _ => .nil) (fun _ => .nil) (fun _ p => p.cs .nil (fun k r => r.cs .nil (fun v _ => ih (dput acc k v)))) (fun _ _ => .nil) (fun _ => .nil) (fun _ => .nil) .nil) s .nil
def newO (o : VO) (h : VH) : VR := h.new o (fun k h => .one (.ref k) h)
def idxU (a b : U) (h : VH) : VR :=
  a.dict h (b.caseInt (.bad 32) (fun i => a.seq h (.bad 31) (fun s => normIx i s.len (.bad 31) (fun k => s.nth k (.bad 31) (fun u => .one u h)))))
    (fun d => dgetC d b (.bad 30) (.bad 30) (fun v => .one v h))
/-- a bound of a slice: nil, where none is written -/
def ixO {α : Type} (u : U) (z : α) (f : Option Int → α) : α :=
  U.rec (motive := fun _ => α) z (fun _ => z) (fun i => f (some i)) (fun _ => z) (f none) (fun _ _ _ _ => z) (fun _ _ _ => z) (fun _ _ _ => z) (fun _ _ => z) (fun _ => z) (fun _ => z) (fun _ _ _ => z) u
def slcS (s : U) (lo hi : Option Int) : U :=
  (fun n => (fun l r => (s.drop l).take (Nat.sub r l)) (Option.rec 0 (fun i => clampIx i n) lo) (Option.rec n (fun i => clampIx i n) hi)) s.len
def slcU (a lo hi : U) (h : VH) : VR :=
  ixO lo (.bad 33) fun lo => ixO hi (.bad 33) fun hi => a.cases (.bad 33) (fun _ => .bad 33) (fun _ => .bad 33) (fun _ => .bad 33) (fun _ s => .one (mkT (slcS s lo hi)) h) (fun _ s => .one (mkL (slcS s lo hi)) h) (fun _ => .bad 33)
    (fun k => h.at k (.bad 33) (fun o => VO.rec (fun s => .one (mkL (slcS s lo hi)) h) (fun _ => .bad 33) (fun _ _ => .bad 33) o)) (.bad 33)
def arg1 (u : U) (f : U → VR) : VR := u.cs (.bad 50) (fun a r => r.cs (f a) (fun _ _ => .bad 50))
def arg2 (u : U) (f : U → U → VR) : VR := u.cs (.bad 50) (fun a r => r.cs (.bad 50) (fun b q => q.cs (f a b) (fun _ _ => .bad 50)))
def lstM (x : U) (h : VH) (f : Nat → U → VR) : VR := x.caseRef (.bad 20) (fun k => h.at k (.bad 20) (fun o => VO.rec (fun s => f k s) (fun _ => .bad 20) (fun _ _ => .bad 20) o))
def dctM (x : U) (h : VH) (f : Nat → U → VR) : VR := x.caseRef (.bad 20) (fun k => h.at k (.bad 20) (fun o => VO.rec (fun _ => .bad 20) (fun s => f k s) (fun _ _ => .bad 20) o))
def findU (y : U) (h : VH) (s : U) : Nat → VR := U.sp (α := Nat → VR) (fun _ => .bad 23) (fun a _ ih i => Tri.rec (ih (Nat.succ i)) (.one (.int (.ofNat i)) h) (.bad 23) (eqU a y)) s
/-- the receiver is of the kind that the method wants -/
def bmT (m : Nat) (x : U) (h : VH) : Bool :=
  sel m [x.list h false (fun _ => true), x.list h false (fun _ => true), x.list h false (fun _ => true), x.dict h false (fun _ => true), x.seq h false (fun _ => true), x.dict h false (fun _ => true), x.dict h false (fun _ => true), x.dict h false (fun _ => true), x.dict h false (fun _ => true)] false
/-- 0 append, 1 extend, 2 pop, 3 dict's pop with a default, 4 index, 5 get, 6 get with a default, 7 setdefault, 8 update -/
def bmU (m : Nat) (x : U) (args : U) (h : VH) : VR :=
  sel m [
    lstM x h (fun k s => arg1 args fun y => few s (.one .non (h.put k (.lst (s.app (.cons y .nil))))) (.bad 143)),
    lstM x h (fun k s => arg1 args fun y => y.list h (.bad 21) fun t => (fun w => few w (.one .non (h.put k (.lst w))) (.bad 143)) (s.app t)),
    lstM x h (fun k s => let n := Nat.pred s.len; s.nth n (.bad 22) (fun u => .one u (h.put k (.lst (s.take n))))),
    dctM x h (fun k s => arg2 args fun y z => dget s y (.bad 22) (.one z h) (fun v => .one v (h.put k (.dct (ddel s y))))),
    Nat.rec (.bad 23) (fun _ _ => x.seq h (.bad 23) (fun s => arg1 args fun y => findU y h s 0)) (dpI (x.look h)),
    x.dict h (.bad 24) (fun s => arg1 args fun y => dgetC s y (.bad 24) (.one .non h) (fun v => .one v h)),
    x.dict h (.bad 24) (fun s => arg2 args fun y z => dgetC s y (.bad 24) (.one z h) (fun v => .one v h)),
    dctM x h (fun k s => arg2 args fun y z => dget s y (.bad 25) (.one z (h.put k (.dct (dput s y z)))) (fun v => .one v h)),
    dctM x h (fun k s => arg1 args fun y => y.dict h (.bad 26) (fun t => .one .non (h.put k (.dct (dmerge s t)))))] (.bad 27)
/-- 0 len, 1 all, 2 any, 3 sorted, 4 sorted with a key, 5 tuple, 6 list, 7 dict(), 8 dict of a dict, 9 bool, 10 max with a key, 11 int, 12 dict of pairs, 13 max of two, 14 min of two, 15 max -/
def bcU (callv : U → U → VH → VR) (b : Nat) (args : U) (h : VH) : VR :=
  sel b [
    arg1 args fun x => x.size h (.bad 40) (fun n => .one (.int (.ofNat n)) h),
    arg1 args fun x => x.list h (.bad 41) (fun s => allT s h),
    arg1 args fun x => x.list h (.bad 42) (fun s => anyT s h),
    arg1 args fun x => x.list h (.bad 43) (fun s => sortS s h),
    arg2 args fun x f => (fun go => x.dict h (x.list h (.bad 44) go) (fun s => go (dkeys s))) (fun s => few s (sortK (callv f) s .nil h) (.bad 44)),
    arg1 args fun x => x.seq h (.bad 45) (fun s => .one (mkT s) h),
    arg1 args fun x => x.seq h (.bad 46) (fun s => newO (.lst s) h),
    newO (.dct .nil) h,
    arg1 args fun x => x.dict h (.bad 47) (fun s => Bool.rec (.bad 47) (newO (.dct s) h) (dcpOk s)),
    arg1 args fun x => x.cases (.bad 48) (fun b => rb b h) (fun i => rb (bnot (beqI i (.ofNat 0))) h) (fun _ => .bad 48) (fun _ _ => .bad 48) (fun _ _ => .bad 48) (fun _ => .bad 48) (fun _ => .bad 48) (.bad 48),
    arg2 args fun x f => x.spine h (.bad 48) (fun s => s.cs (.bad 48) (fun a0 s => VR.bind (callv f (.cons a0 .nil) h) (fun k0 h =>
      U.sp (α := U → U → VH → VR) (fun best _ h => .one best h) (fun a _ ih best bk h => VR.bind (callv f (.cons a .nil) h) (fun k h => Tri.rec (ih best bk h) (ih a k h) (.bad 48) (ltU bk k))) s a0 k0 h))),
    arg1 args fun x => x.caseInt (.bad 49) (fun i => .one (.int i) h),
    arg1 args fun x => x.seq h (.bad 47) (fun s => newO (.dct (pairsD s)) h),
    arg2 args fun x y => x.caseInt (.bad 49) fun i => y.caseInt (.bad 49) fun j => .one (.int (Bool.rec i j (bltI i j))) h,
    arg2 args fun x y => x.caseInt (.bad 49) fun i => y.caseInt (.bad 49) fun j => .one (.int (Bool.rec i j (bltI j i))) h,
    arg1 args fun x => x.seq h (.bad 49) (fun s => s.cs (.bad 49) (fun a0 s => U.sp (α := U → VR) (fun best => .one best h) (fun a _ ih best => Tri.rec (ih best) (ih a) (.bad 49) (ltU best a)) s a0))] (.bad 50)
structure Fn where
  nparams : Nat
  nloc : Nat
  gc : Bool
  body : VSt
structure Prog where
  fn : Nat → Fn
  init : Nat → Nat
  sub : Nat → Nat
  meth : Nat → Nat → Nat
/-- kinds by bits: 0 int, 1 bool, 2 str, 3 list, 4 tuple, 5 dict, 6 + c the class c -/
def tst (m : Nat) (k : Nat) (h : VH) : VR := rb (bnot (Nat.beq (Nat.land m k) 0)) h
def isiU (p : Prog) (m : Nat) (u : U) (h : VH) : VR :=
  u.cases (rb false h) (fun _ => tst m 3 h) (fun _ => tst m 1 h) (fun _ => tst m 4 h) (fun _ _ => tst m 16 h) (fun _ _ => tst m 8 h) (fun s => Bool.rec (.bad 61) (tst m 32 h) (dPl s))
    (fun k => h.at k (.bad 60) (fun o => VO.rec (fun _ => tst m 8 h) (fun s => Bool.rec (.bad 61) (tst m 32 h) (dPl s)) (fun c _ => tst m (p.sub c) h) o)) (.bad 60)
/-! ### what a def leaves -/
def refs (n : Nat) (u : U) (acc : List Nat) : List Nat :=
  U.rec (motive := fun _ => List Nat → List Nat) (fun l => l) (fun _ l => l) (fun _ l => l) (fun _ l => l) (fun l => l) (fun _ _ ia ib l => ib (ia l)) (fun _ _ i => i) (fun _ _ i => i) (fun _ i => i)
    (fun k l => Bool.rec l (.cons k l) (Nat.ble n k)) (fun _ l => l) (fun _ _ i => i) u acc
def memN (k : Nat) (l : List Nat) : Bool := List.rec false (fun a _ ih => Bool.rec ih true (Nat.beq a k)) l
def reach (n : Nat) (h : VL) (fuel : Nat) (todo done : List Nat) : List Nat :=
  Nat.rec (motive := fun _ => List Nat → List Nat → List Nat) (fun _ d => d)
    (fun _ ih t d => List.casesOn t d (fun k r => Bool.rec (h.find k (ih r d) (fun o => ih (VO.rec (fun s => refs n s r) (fun s => refs n s r) (fun _ s => refs n s r) o) (.cons k d))) (ih r d) (memN k d))) fuel todo done
def keepK (n : Nat) (ks : List Nat) (k : Nat) : Bool := Bool.rec true (memN k ks) (Nat.ble n k)
def VL.keep (l : VL) (f : Nat → Bool) : VL := VL.rec (motive := fun _ => VL) .nil (fun k o _ ih => Bool.rec ih (.cons k o ih) (f k)) l
def VH.keep (h : VH) (f : Nat → Bool) : VH := VH.rec (fun m l => .mk m (l.keep f)) h
def gcK (n : Nat) (u : U) (h : VH) : Nat → Bool := VH.rec (fun _ l => keepK n (List.casesOn (refs n u []) [] (fun k r => reach n l 100000 (.cons k r) []))) h
def gcH (n : Nat) (u : U) (h : VH) : VH := VH.rec (fun m _ => Bool.rec (h.keep (gcK n u h)) h (Nat.beq m n)) h
/-- a new list or dict that is handed back is a value from then on -/
def gone (n k : Nat) (v : U) (h : VH) : VR := (fun f => .one v (h.keep (fun j => Bool.rec (f j) false (Nat.beq j k)))) (gcK n v h)
def leave (gc : Bool) (h0 : VH) (u : U) (h : VH) : VR :=
  Bool.rec (.one u h) (VH.rec (fun n _ => u.caseRef (.one u (gcH n u h)) (fun k => Bool.rec (.one u (gcH n u h)) (h.at k (.one u (gcH n u h)) (fun o => VO.rec (fun s => gone n k (mkL s) h) (fun s => gone n k (.vd s) h) (fun _ _ => .one u (gcH n u h)) o)) (Nat.ble n k))) h0) gc
def cmpE (p : Prog) (call : Nat → U → VH → VR) (op : Nat) (x y : U) (h : VH) : VR :=
  let z := cmpU op x y h
  Bool.rec z (x.caseRef z (fun k => h.at k z (fun o => VO.rec (fun _ => z) (fun _ => z) (fun c _ => Nat.rec (.bad 125) (fun f _ => VR.bind (call f (.cons x (.cons y .nil)) h) (fun t h => Nat.rec (.one t h) (fun _ _ => t.true? h (.bad 125) (rb true h) (rb false h)) op)) (p.meth c 1000)) o))) (Nat.ble op 1)
def callV (call : Nat → U → VH → VR) (f s : U) (h : VH) : VR :=
  U.casesOn (motive := fun _ => VR) f (.bad 127) (fun _ => .bad 127) (fun _ => .bad 127) (fun _ => .bad 127) (.bad 127) (fun _ _ => .bad 127) (fun _ _ => .bad 127) (fun _ _ => .bad 127) (fun _ => .bad 127) (fun _ => .bad 127)
    (fun g => call g s h) (fun g c => call g (s.app c) h)
def mkU (p : Prog) (call : Nat → U → VH → VR) (c : Nat) (s : U) (h : VH) : VR := h.new (.ins c .nil) fun k h => VR.bind (call (p.init c) (.cons (.ref k) s) h) fun t h => Bool.rec (.bad 152) (.one (.ref k) h) (isNone t)
/-- o.m(..): m the name's number; the class tells the def -/
def mtU (p : Prog) (m : Nat) (x : U) (h : VH) (f : Nat → VR) : VR :=
  x.caseRef (.bad 108) fun k => h.at k (.bad 108) fun o => VO.rec (fun _ => .bad 108) (fun _ => .bad 108) (fun cl fs => fget fs m (Nat.rec (.bad 109) (fun g _ => f g) (p.meth cl m)) (fun _ => .bad 110)) o
abbrev Sem := U → VS → VH → VR
/-- a comprehension's clause: the acc, the slots ahead, the heap -/
def cforV (t : VT) (ir : Sem) (s : U) (c : U) (σ : VS) (h : VH) : VR :=
  U.sp (α := U → VH → VR) (fun c h => .one c h) (fun a _ ih c h => asgT (.bad 126) t a σ h (fun σ' => VR.bind (ir c σ' h) (fun c h => ih c h))) s c h
def cforL (t : VT) (ir : Sem) (k : Nat) (w : Nat) : Nat → Sem :=
  Nat.rec (motive := fun _ => Nat → Sem) (fun _ _ _ _ => .bad 150) (fun _ ih i c σ h => h.at k (.bad 151) (fun o => VO.rec (fun s => s.nth i (.one c h) (fun a => asgT (.bad 126) t a σ h (fun σ' => VR.bind (ir c σ' h) (fun c h => ih (Nat.succ i) c σ h)))) (fun _ => .bad 151) (fun _ _ => .bad 151) o)) w
def ev (p : Prog) (call : Nat → U → VH → VR) (e : VE) : Sem :=
  VE.rec (motive := fun _ => Sem)
    /- nil -/ (fun _ _ h => .one .nil h)
    /- cons -/ (fun _ _ ia ib c σ h => VR.bind (ia c σ h) fun x h => VR.bind (ib c σ h) fun y h => .one (.cons x y) h)
    /- star -/ (fun _ _ ia ib c σ h => VR.bind (ia c σ h) fun x h => x.seq h (.bad 101) fun s => VR.bind (ib c σ h) fun y h => .one (s.app y) h)
    /- var -/ (fun i _ σ h => σ.get i (.bad 102) (fun u => .one u h))
    /- cst -/ (fun u _ _ h => .one u h)
    /- tup -/ (fun _ i c σ h => VR.bind (i c σ h) fun s h => .one (mkT s) h)
    /- lst -/ (fun _ i c σ h => VR.bind (i c σ h) fun s h => newO (.lst s) h)
    /- vls -/ (fun _ i c σ h => VR.bind (i c σ h) fun s h => .one (mkL s) h)
    /- dsp -/ (fun _ i _ σ h => VR.bind (i .nil σ h) fun s h => newO (.dct s) h)
    /- vds -/ (fun _ i _ σ h => VR.bind (i .nil σ h) fun s h => .one (.vd s) h)
    /- dkv -/ (fun _ _ _ ik iv ir c σ h => VR.bind (ik c σ h) fun k h => VR.bind (iv c σ h) fun v h => ir (dput c k v) σ h)
    /- dst -/ (fun _ _ ia ir c σ h => VR.bind (ia c σ h) fun x h => x.dict h (.bad 121) (fun d => ir (dmerge c d) σ h))
    /- dnil -/ (fun c _ h => .one c h)
    /- bin -/ (fun op _ _ ia ib c σ h => VR.bind (ia c σ h) fun x h => VR.bind (ib c σ h) fun y h => binU op x y h)
    /- cmp -/ (fun op _ _ ia ib c σ h => VR.bind (ia c σ h) fun x h => VR.bind (ib c σ h) fun y h => cmpU op x y h)
    /- cmpI -/ (fun op _ _ ia ib c σ h => VR.bind (ia c σ h) fun x h => VR.bind (ib c σ h) fun y h => cmpE p call op x y h)
    /- chain -/ (fun o1 o2 _ _ _ ia ib ic c σ h => VR.bind (ia c σ h) fun x h => VR.bind (ib c σ h) fun y h => VR.bind (cmpU o1 x y h) fun t h => t.true? h (.bad 103) (rb false h) (VR.bind (ic c σ h) fun z h => cmpU o2 y z h))
    /- and -/ (fun _ _ ia ib c σ h => VR.bind (ia c σ h) fun x h => x.true? h (.bad 103) (.one x h) (ib c σ h))
    /- or -/ (fun _ _ ia ib c σ h => VR.bind (ia c σ h) fun x h => x.true? h (.bad 103) (ib c σ h) (.one x h))
    /- not -/ (fun _ ia c σ h => VR.bind (ia c σ h) fun x h => x.true? h (.bad 104) (rb true h) (rb false h))
    /- ife -/ (fun _ _ _ ic ia ib c σ h => VR.bind (ic c σ h) fun x h => x.true? h (.bad 105) (ib c σ h) (ia c σ h))
    /- fld -/ (fun _ f ia c σ h => VR.bind (ia c σ h) fun x h => x.caseRef (.bad 106) fun k => h.at k (.bad 106) fun o => VO.rec (fun _ => .bad 106) (fun _ => .bad 106) (fun _ fs => fget fs f (.bad 107) (fun u => .one u h)) o)
    /- idx -/ (fun _ _ ia ib c σ h => VR.bind (ia c σ h) fun x h => VR.bind (ib c σ h) fun y h => idxU x y h)
    /- slc -/ (fun _ _ _ ia il ih c σ h => VR.bind (ia c σ h) fun x h => VR.bind (il c σ h) fun y h => VR.bind (ih c σ h) fun z h => slcU x y z h)
    /- nop -/ (fun _ _ h => .one .nil h)
    /- call -/ (fun f _ i c σ h => VR.bind (i c σ h) fun s h => call f s h)
    /- meth -/ (fun m _ _ ia i c σ h => VR.bind (ia c σ h) fun x h => mtU p m x h fun g => VR.bind (i c σ h) fun s h => call g (.cons x s) h)
    /- mk -/ (fun cl _ i c σ h => VR.bind (i c σ h) fun s h => mkU p call cl s h)
    /- callv -/ (fun _ _ ia i c σ h => VR.bind (ia c σ h) fun x h => VR.bind (i c σ h) fun s h => callV call x s h)
    /- bm -/ (fun m _ _ ia i c σ h => VR.bind (ia c σ h) fun x h => Bool.rec (.bad 111) (VR.bind (i c σ h) fun s h => bmU m x s h) (bmT m x h))
    /- bc -/ (fun b _ i c σ h => VR.bind (i c σ h) fun s h => bcU (callV call) b s h)
    /- isi -/ (fun m _ i c σ h => VR.bind (i c σ h) fun x h => isiU p m x h)
    /- comp -/ (fun _ i _ σ h => VR.bind (i .nil σ h) fun s h => few s (.one (mkL (s.revA .nil)) h) (.bad 141))
    /- compH -/ (fun _ i _ σ h => VR.bind (i .nil σ h) fun s h => few s (newO (.lst (s.revA .nil)) h) (.bad 141))
    /- dcomp -/ (fun _ i _ σ h => VR.bind (i .nil σ h) fun s h => .one (.vd s) h)
    /- dcompH -/ (fun _ i _ σ h => VR.bind (i .nil σ h) fun s h => newO (.dct s) h)
    /- cfor -/ (fun t _ _ ii ir c σ h => VR.bind (ii .nil σ h) fun x h => x.walk h (.bad 122) (fun s => cforV t (fun c σ h => ir c σ h) s c σ h) (fun k => cforL t (fun c σ h => ir c σ h) k 100000 0 c σ h))
    /- cif -/ (fun _ _ ic ir c σ h => VR.bind (ic c σ h) fun x h => x.true? h (.bad 123) (.one c h) (ir c σ h))
    /- cend -/ (fun _ i c σ h => VR.bind (i c σ h) fun x h => .one (.cons x c) h)
    /- cend2 -/ (fun _ _ ik iv c σ h => VR.bind (ik c σ h) fun k h => VR.bind (iv c σ h) fun v h => dputC c k v (.bad 144) (fun d => .one d h))
    /- wip -/ (fun i _ ir c σ h => ir c (σ.unset i) h)
    /- enum -/ (fun _ i c σ h => VR.bind (i c σ h) fun x h => x.cases (.bad 110) (fun _ => .bad 110) (fun _ => .bad 110) (fun _ => .bad 110) (fun _ s => .one (mkL (enumS s)) h) (fun _ s => .one (mkL (enumS s)) h) (fun _ => .bad 110) (fun _ => .bad 110) (.bad 110))
    /- zip -/ (fun _ _ ia ib c σ h => VR.bind (ia c σ h) fun x h => VR.bind (ib c σ h) fun y h => zipU x y h)
    /- rng -/ (fun _ _ ia ib c σ h => VR.bind (ia c σ h) fun x h => VR.bind (ib c σ h) fun y h => x.caseInt (.bad 112) fun i => y.caseInt (.bad 112) fun j => Bool.rec (.bad 113) (Bool.rec (.bad 113) (.one (mkL (rngS (Int.sub j i).toNat i)) h) (smallI j)) (smallI i))
    /- items -/ (fun _ i c σ h => VR.bind (i c σ h) fun x h => x.dict h (.bad 113) fun s => .one (mkL (ditems s)) h)
    /- vals -/ (fun _ i c σ h => VR.bind (i c σ h) fun x h => x.dict h (.bad 113) fun s => .one (mkL (dvals s)) h)
    /- lam -/ (fun f _ i c σ h => VR.bind (i c σ h) fun s h => .one (.clo f s) h)
    /- lim -/ (fun _ i c σ h => VR.bind (i c σ h) fun s h => few s (.one s h) (.bad 140))
    e
/-- x[y] = u -/
def setU {α : Type} (x y u : U) (h : VH) (z : α) (f : VH → α) : α :=
  x.caseRef z fun k => h.at k z fun ob => VO.rec (fun s => y.caseInt z fun j => normIx j s.len z (fun n => f (h.put k (.lst (s.setn n u))))) (fun s => dputC s y u z (fun t => f (h.put k (.dct t)))) (fun _ _ => z) ob
/-- del x[y] -/
def delU {α : Type} (x y : U) (h : VH) (z : α) (f : VH → α) : α :=
  x.caseRef z fun k => h.at k z fun ob => VO.rec (fun _ => z) (fun s => dgetC s y z z (fun _ => f (h.put k (.dct (ddel s y))))) (fun _ _ => z) ob
def VRS.ofR (r : VR) (f : U → VH → VRS) : VRS := VR.rec f VRS.bad r
abbrev SemS := VS → VH → VRS
/-- over values; over a list that may change -/
def forV (t : VT) (ib : SemS) (s : U) : SemS :=
  U.sp (α := SemS) (fun σ h => .nx σ h) (fun a _ ih σ h => asgT (.bad 137) t a σ h (fun σ => VRS.rec (fun σ h => ih σ h) .rt (fun σ h => .nx σ h) (fun σ h => ih σ h) .bad (ib σ h))) s
def forL (t : VT) (ib : SemS) (k : Nat) (w : Nat) : Nat → SemS :=
  Nat.rec (motive := fun _ => Nat → SemS) (fun _ _ _ => .bad 150) (fun _ ih i σ h => h.at k (.bad 151) (fun o => VO.rec (fun s => s.nth i (.nx σ h) (fun a => asgT (.bad 137) t a σ h (fun σ => VRS.rec (fun σ h => ih (Nat.succ i) σ h) .rt (fun σ h => .nx σ h) (fun σ h => ih (Nat.succ i) σ h) .bad (ib σ h)))) (fun _ => .bad 151) (fun _ _ => .bad 151) o)) w
def ex (p : Prog) (call : Nat → U → VH → VR) (w : Nat) (s : VSt) : SemS :=
  VSt.rec (motive := fun _ => SemS)
    /- nil -/ (fun σ h => .nx σ h)
    /- cons -/ (fun _ _ ia ib σ h => VRS.rec (fun σ h => ib σ h) .rt .bk .ct .bad (ia σ h))
    /- asg -/ (fun t e σ h => VRS.ofR (ev p call e .nil σ h) fun u h => asgT (.bad 130) t u σ h (fun σ => .nx σ h))
    /- asgF -/ (fun o f e σ h => VRS.ofR (ev p call e .nil σ h) fun u h => VRS.ofR (ev p call o .nil σ h) fun x h => x.caseRef (.bad 131) fun k => h.at k (.bad 131) fun ob => VO.rec (fun _ => .bad 131) (fun _ => .bad 131) (fun c fs => Bool.rec (.bad 139) (.nx σ (h.put k (.ins c (fput fs f u)))) (Nat.ble fs.len 1000)) ob)
    /- asgI -/ (fun o i e σ h => VRS.ofR (ev p call e .nil σ h) fun u h => VRS.ofR (ev p call o .nil σ h) fun x h => VRS.ofR (ev p call i .nil σ h) fun y h => setU x y u h (.bad 132) (fun h => .nx σ h))
    /- del -/ (fun o i σ h => VRS.ofR (ev p call o .nil σ h) fun x h => VRS.ofR (ev p call i .nil σ h) fun y h => delU x y h (.bad 133) (fun h => .nx σ h))
    /- ex -/ (fun e σ h => VRS.ofR (ev p call e .nil σ h) fun _ h => .nx σ h)
    /- ret -/ (fun e σ h => VRS.ofR (ev p call e .nil σ h) fun u h => .rt u h)
    /- iff -/ (fun c _ _ ia ib σ h => VRS.ofR (ev p call c .nil σ h) fun x h => x.true? h (.bad 134) (ib σ h) (ia σ h))
    /- for -/ (fun t it _ ib σ h => VRS.ofR (ev p call it .nil σ h) fun x h => x.walk h (.bad 135) (fun s => forV t (fun σ h => ib σ h) s σ h) (fun k => forL t (fun σ h => ib σ h) k w 0 σ h))
    /- while -/ (fun c _ ib σ h => Nat.rec (motive := fun _ => VS → VH → VRS) (fun _ _ => .bad 138)
        (fun _ ih σ h => VRS.ofR (ev p call c .nil σ h) fun x h => x.true? h (.bad 136) (.nx σ h) (VRS.rec (fun σ h => ih σ h) .rt (fun σ h => .nx σ h) (fun σ h => ih σ h) .bad (ib σ h))) w σ h)
    /- raise -/ (fun _ _ => .bad 777)
    /- pass -/ (fun σ h => .nx σ h)
    /- brk -/ (fun σ h => .bk σ h)
    /- cnt -/ (fun σ h => .ct σ h)
    s
/-- a def called with all its arguments -/
def callF (p : Prog) (w : Nat) (d : Nat) : Nat → U → VH → VR :=
  Nat.rec (motive := fun _ => Nat → U → VH → VR) (fun _ _ _ => .bad 100)
    (fun _ ih f s h => Fn.rec (fun np nl gc body => Bool.rec (.bad 129) (VRS.rec (fun _ h1 => leave gc h .non h1) (fun u h1 => leave gc h u h1) (fun _ _ => .bad 128) (fun _ _ => .bad 128) .bad (ex p ih w body (VS.of s nl) h)) (Nat.beq s.len np)) (p.fn f)) d
end
end VI
namespace VI
open PySem PySem.Spec PyProof.Rows L2
noncomputable section
/-! ### texts by numbers -/
def charsG (f n : Nat) (acc : List Nat) : List Nat := match f with
  | 0 => acc
  | f + 1 => if n = 0 then acc else charsG f ((n - 1) / vB) (((n - 1) % vB) :: acc)
def charsL (n : Nat) : List Nat := charsG 1000000 n []
def encL (l : List Nat) : Nat := l.foldl (fun a c => a * vB + c + 1) 0
def dec (n : Nat) : Str := ⟨(charsL n).toArray⟩
/-- the text of a number that is told in full -/
def StrIs (n : Nat) (x : Str) : Prop := x = dec n ∧ encL (charsL n) = n ∧ PyData.strOk x = true
/-! ### data -/
def UD : U → Option PyData × Option (List PyData)
  | .non => (some .none, none)
  | .bl b => (some (.bool b), none)
  | .int i => (some (.int i), none)
  | .str n => (if encL (charsL n) = n ∧ PyData.strOk (dec n) = true then some (.str (dec n)) else none, none)
  | .nil => (none, some [])
  | .cons a b => (none, match (UD a).1, (UD b).2 with | some x, some xs => some (x :: xs) | _, _ => none)
  | .tup _ s => ((UD s).2.map .tuple, none)
  | .vl _ s => ((UD s).2.map .list, none)
  | _ => (none, none)
abbrev uD (u : U) : Option PyData := (UD u).1
abbrev uL (u : U) : Option (List PyData) := (UD u).2
/-- d bounds the depth of the data s, if it is not 0 -/
def Dep (d : Nat) (s : U) : Prop := d ≠ 0 → ∃ ds, uL s = some ds ∧ PyData.canLayAll0 ds = true ∧ PyData.depthAll ds + 1 ≤ d ∧ d ≤ 50
/-! ### values by the abstract heap -/
/-- G: where the defs and classes stand; ρ: where the objects that change stand -/
structure Rf where
  G : Nat → Option Addr
  ρ : Nat → Option Addr
  w : World
/-! ### keys that are tuples -/
def NK : U → Option NestedKey × Option (List NestedKey)
  | .non => (some .none, none)
  | .bl b => (some (.num (b2i b)), none)
  | .int i => (some (.num i), none)
  | .str n => (if encL (charsL n) = n ∧ PyData.strOk (dec n) = true then some (.text (dec n)) else none, none)
  | .nil => (none, some [])
  | .cons a b => (none, match (NK a).1, (NK b).2 with | some x, some xs => some (x :: xs) | _, _ => none)
  | .tup _ s => ((NK s).2.map .tup, none)
  | _ => (none, none)
abbrev nK (u : U) : Option NestedKey := (NK u).1
abbrev nL (u : U) : Option (List NestedKey) := (NK u).2
theorem nK_str {n : Nat} {x : NestedKey} (h : nK (.str n) = some x) : x = .text (dec n) ∧ encL (charsL n) = n := by
  have h : (if encL (charsL n) = n ∧ PyData.strOk (dec n) = true then some (NestedKey.text (dec n)) else none) = some x := h
  split at h
  · cases h; rename_i q; exact ⟨rfl, q.1⟩
  · cases h
theorem nK_tup {d : Nat} {s : U} {x : NestedKey} (h : nK (.tup d s) = some x) : ∃ xs, x = .tup xs ∧ nL s = some xs := by
  have h : (NK s).2.map NestedKey.tup = some x := h
  cases e : (NK s).2 with
  | none => rw [e] at h; cases h
  | some xs => rw [e] at h; cases h; exact ⟨xs, rfl, e⟩
theorem nL_cons {a b : U} {l : List NestedKey} (h : nL (.cons a b) = some l) : ∃ x xs, l = x :: xs ∧ nK a = some x ∧ nL b = some xs := by
  have h : (match (NK a).1, (NK b).2 with | some x, some xs => some (x :: xs) | _, _ => none) = some l := h
  cases e1 : (NK a).1 with
  | none => rw [e1] at h; cases h
  | some x =>
    cases e2 : (NK b).2 with
    | none => rw [e1, e2] at h; cases h
    | some xs => rw [e1, e2] at h; cases h; exact ⟨x, xs, rfl, e1, e2⟩
/-- the keys of keys and values in turn -/
def nKs : U → Option (List NestedKey)
  | .nil => some []
  | .cons k (.cons _ r) => match nK k, nKs r with
    | some x, some xs => some (x :: xs)
    | _, _ => none
  | _ => none
abbrev NE := NestedKey × Addr × V
abbrev NEv := NestedKey × Addr × Value
def EntR (p : NE) (q : NEv) : Prop := p.1 = q.1 ∧ p.2.1 = q.2.1 ∧ RelV p.2.2 q.2.2
def rawN (w : World) (x : NEv) : DictEntry := ⟨x.1.hash w, .ref x.2.1, x.2.2⟩
/-- a dict with tuples for keys: its own object -/
def dNf (w : World) (a : Addr) (kvs : List NE) : Heap → Prop := fun h => (kvs.length ≤ sizeLine ∧ (a == sysModules) = false ∧ (∀ p ∈ kvs, p.1.depth ≤ 8) ∧ (kvs.map (·.1)).Nodup) ∧
  ∃ xs, Paired EntR kvs xs ∧ ∃ o es ep, h.get? a = some o ∧ o.ExactDict ∧ o.data = .dict es ep ∧ es.toList = xs.map (rawN w)
def dN (w : World) (a : Addr) (kvs : List NE) : HO := .ext (dNf w a kvs)
def flatK (kvs : List (Key × V)) : List V := kvs.flatMap fun p => [kV p.1, p.2]
def flatN (kvs : List NE) : List V := kvs.flatMap fun p => [V.ref p.2.1, p.2.2]
def noV : V → Prop := fun _ => False
def noL : List V → Prop := fun _ => False
/-- the relations of a value and of a spine -/
def RR (r : Rf) (H : Hp) : U → (V → Prop) × (List V → Prop)
  | .non => (fun v => v = .non, noL)
  | .bl b => (fun v => v = .bl b, noL)
  | .int i => (fun v => v = .int i, noL)
  | .str n => (fun v => ∃ x, v = .str x ∧ StrIs n x, noL)
  | .nil => (noV, fun l => l = [])
  | .cons a b => (noV, fun l => ∃ x xs, l = x :: xs ∧ (RR r H a).1 x ∧ (RR r H b).2 xs)
  | .tup d s => (fun v => ∃ a o xs, v = .ref a ∧ H a = some (.frz o (.tup xs)) ∧ o.dict = none ∧ (RR r H s).2 xs ∧ Dep d s, noL)
  | .vl d s => (fun v => ∃ a o xs, v = .ref a ∧ H a = some (.frz o (.lst xs)) ∧ (RR r H s).2 xs ∧ Dep d s, noL)
  | .vd s => (fun v => ∃ a o, v = .ref a ∧ ((∃ kvs, H a = some (.frz o (.dK kvs)) ∧ (kvs.map (·.1)).Nodup ∧ (RR r H s).2 (flatK kvs)) ∨ ∃ kvs, H a = some (.frz o (dN r.w a kvs)) ∧ (kvs ≠ [] ∧ nKs s = some (kvs.map (·.1))) ∧ (RR r H s).2 (flatN kvs)), noL)
  | .ref k => (fun v => ∃ a, v = .ref a ∧ r.ρ k = some a, noL)
  | .gf f => (fun v => ∃ a, v = .ref a ∧ r.G f = some a, noL)
  | .clo _ _ => (noV, noL)
abbrev Rp (r : Rf) (H : Hp) (u : U) (v : V) : Prop := (RR r H u).1 v
abbrev RpL (r : Rf) (H : Hp) (u : U) (l : List V) : Prop := (RR r H u).2 l
/-- what never goes away: tuples and what is frozen -/
structure Kp (r : Rf) (H : Hp) (r' : Rf) (H' : Hp) : Prop where
  tup : ∀ a xs, H a = some (.tup xs) → H' a = some (.tup xs)
  frz : ∀ a o u, H a = some (.frz o u) → H' a = some (.frz o u)
  /-- what is tracked and no object of the evaluation stays as it is -/
  ap : ∀ a o, H a = some o → (∀ k, r.ρ k ≠ some a) → H' a = some o ∧ ∀ k, r'.ρ k ≠ some a
theorem Kp.refl {r : Rf} (H : Hp) : Kp r H r H := ⟨fun _ _ h => h, fun _ _ _ h => h, fun _ _ h h2 => ⟨h, h2⟩⟩
theorem Kp.trans {r r1 r2 : Rf} {H H1 H2 : Hp} (a : Kp r H r1 H1) (b : Kp r1 H1 r2 H2) : Kp r H r2 H2 := ⟨fun x xs h => b.tup x xs (a.tup x xs h), fun x o u h => b.frz x o u (a.frz x o u h), fun x o h h2 => b.ap x o (a.ap x o h h2).1 (a.ap x o h h2).2⟩
/-- a new object -/
theorem Kp.new {r : Rf} {H : Hp} {a : Addr} {o : HO} (h : H a = none) : Kp r H r (upd H a o) :=
  ⟨fun b xs e => by rw [upd_ne (ne_of_none e h)]; exact e, fun b o u e => by rw [upd_ne (ne_of_none e h)]; exact e, fun b o e e2 => ⟨by rw [upd_ne (ne_of_none e h)]; exact e, e2⟩⟩
/-- a change of an object of the evaluation -/
theorem Kp.put {r : Rf} {H : Hp} {a : Addr} {o o' : HO} {k : Nat} (ha : r.ρ k = some a) (h : H a = some o) (h1 : ∀ xs, o ≠ .tup xs) (h2 : ∀ q u, o ≠ .frz q u) : Kp r H r (upd H a o') := by
  refine ⟨fun b xs e => ?_, fun b q u e => ?_, fun b q e e2 => ⟨?_, e2⟩⟩
  · rw [upd_ne (fun z => by subst z; rw [h] at e; cases e; exact h1 xs rfl)]; exact e
  · rw [upd_ne (fun z => by subst z; rw [h] at e; cases e; exact h2 _ _ rfl)]; exact e
  · rw [upd_ne (fun z => by subst z; exact e2 k ha)]; exact e
theorem new_keeps' {H : Hp} {p : Addr} {o : HO} (h : H p = none) : ∀ a u, H a = some u → upd H p o a = some u := fun a u e => by rw [upd_ne (ne_of_none e h)]; exact e
/-- behind all that was done with a new thing it is put away -/
theorem Kp.newEnd {r r' : Rf} {H H' : Hp} {a : Addr} {o o' : HO} (h : H a = none) (k : Kp r (upd H a o) r' H') : Kp r H r' (upd H' a o') :=
  ⟨fun b xs e => by rw [upd_ne (ne_of_none e h)]; exact k.tup b xs (new_keeps' h b _ e), fun b q u e => by rw [upd_ne (ne_of_none e h)]; exact k.frz b q u (new_keeps' h b _ e),
    fun b q e e2 => ⟨by rw [upd_ne (ne_of_none e h)]; exact (k.ap b q (new_keeps' h b _ e) e2).1, (k.ap b q (new_keeps' h b _ e) e2).2⟩⟩
/-- more objects -/
structure Rf.Le (r r' : Rf) : Prop where
  G : r'.G = r.G
  w : r'.w = r.w
  ρ : ∀ k a, r.ρ k = some a → r'.ρ k = some a
theorem Rf.Le.refl (r : Rf) : r.Le r := ⟨rfl, rfl, fun _ _ h => h⟩
theorem Rf.Le.trans {a b c : Rf} (h : a.Le b) (h' : b.Le c) : a.Le c := ⟨h'.G.trans h.G, h'.w.trans h.w, fun k x e => h'.ρ k x (h.ρ k x e)⟩
/-- tuples and what is frozen stay -/
structure Kq (H H' : Hp) : Prop where
  tup : ∀ a xs, H a = some (.tup xs) → H' a = some (.tup xs)
  frz : ∀ a o u, H a = some (.frz o u) → H' a = some (.frz o u)
theorem Kp.q {r r' : Rf} {H H' : Hp} (k : Kp r H r' H') : Kq H H' := ⟨k.tup, k.frz⟩
theorem RR.mono {r r' : Rf} {H H' : Hp} (l : r.Le r') (k : Kq H H') : ∀ u : U, (∀ v, Rp r H u v → Rp r' H' u v) ∧ (∀ xs, RpL r H u xs → RpL r' H' u xs)
  | .non => ⟨fun _ h => h, fun _ h => h⟩
  | .bl _ => ⟨fun _ h => h, fun _ h => h⟩
  | .int _ => ⟨fun _ h => h, fun _ h => h⟩
  | .str _ => ⟨fun _ h => h, fun _ h => h⟩
  | .nil => ⟨fun _ h => h, fun _ h => h⟩
  | .cons a b => ⟨fun _ h => h, fun xs ⟨x, ys, e, h1, h2⟩ => ⟨x, ys, e, (RR.mono l k a).1 x h1, (RR.mono l k b).2 ys h2⟩⟩
  | .tup d s => ⟨fun v ⟨a, o, xs, e, h1, h0, h2, h3⟩ => ⟨a, o, xs, e, k.frz a o _ h1, h0, (RR.mono l k s).2 xs h2, h3⟩, fun _ h => h⟩
  | .vl d s => ⟨fun v ⟨a, o, xs, e, h1, h2, h3⟩ => ⟨a, o, xs, e, k.frz a o _ h1, (RR.mono l k s).2 xs h2, h3⟩, fun _ h => h⟩
  | .vd s => ⟨fun v ⟨a, o, e, q⟩ => ⟨a, o, e, q.imp (fun ⟨kvs, h1, h2, h3⟩ => ⟨kvs, k.frz a o _ h1, h2, (RR.mono l k s).2 _ h3⟩) fun ⟨kvs, h1, h2, h3⟩ => ⟨kvs, by rw [l.w]; exact k.frz a o _ h1, h2, (RR.mono l k s).2 _ h3⟩⟩, fun _ h => h⟩
  | .ref j => ⟨fun v ⟨a, e, h⟩ => ⟨a, e, l.ρ j a h⟩, fun _ h => h⟩
  | .gf f => ⟨fun v ⟨a, e, h⟩ => ⟨a, e, by rw [l.G]; exact h⟩, fun _ h => h⟩
  | .clo _ _ => ⟨fun _ h => h, fun _ h => h⟩
theorem Rp.mono {r r' : Rf} {H H' : Hp} (l : r.Le r') (k : Kp r H r' H') {u : U} {v : V} (h : Rp r H u v) : Rp r' H' u v := (RR.mono l k.q u).1 v h
theorem RpL.mono {r r' : Rf} {H H' : Hp} (l : r.Le r') (k : Kp r H r' H') {u : U} {xs : List V} (h : RpL r H u xs) : RpL r' H' u xs := (RR.mono l k.q u).2 xs h
theorem RpL.monoq {r r' : Rf} {H H' : Hp} (l : r.Le r') (k : Kq H H') {u : U} {xs : List V} (h : RpL r H u xs) : RpL r' H' u xs := (RR.mono l k u).2 xs h
theorem Rp.monoq {r r' : Rf} {H H' : Hp} (l : r.Le r') (k : Kq H H') {u : U} {x : V} (h : Rp r H u x) : Rp r' H' u x := (RR.mono l k u).1 x h
/-! ### the heap of objects that change -/
def VL.find? (l : VL) (k : Nat) : Option VO := l.find k none some
def VH.nxt : VH → Nat | .mk n _ => n
def VH.vl : VH → VL | .mk _ l => l
def VH.find? (h : VH) (k : Nat) : Option VO := h.vl.find? k
theorem VL.find_eq {α : Type} (l : VL) (k : Nat) (z : α) (f : VO → α) : l.find k z f = match l.find? k with | some o => f o | none => z := by
  induction l with
  | nil => rfl
  | cons j o r ih =>
    show (Bool.rec (r.find k z f) (f o) (Nat.beq j k) : α) = match (Bool.rec (r.find? k) (some o) (Nat.beq j k) : Option VO) with | some o => f o | none => z
    cases Nat.beq j k
    · exact ih
    · rfl
theorem VH.at_eq {α : Type} (h : VH) (k : Nat) (z : α) (f : VO → α) : h.at k z f = match h.find? k with | some o => f o | none => z := by
  cases h with
  | mk n l => exact VL.find_eq l k z f
theorem nat_beq_iff {a b : Nat} : Nat.beq a b = true ↔ a = b := ⟨Nat.eq_of_beq_eq_true, fun e => by subst e; exact Nat.beq_refl a⟩
theorem nat_beq_false {a b : Nat} (h : Nat.beq a b = false) : a ≠ b := fun e => by rw [nat_beq_iff.mpr e] at h; cases h
theorem VL.find_set (l : VL) (i : Nat) (o : VO) (j : Nat) : (l.set i o).find? j = if j = i then (l.find? i).map (fun _ => o) else l.find? j := by
  induction l with
  | nil =>
    show (none : Option VO) = _
    split <;> rfl
  | cons k p r ih =>
    show VL.find? (Bool.rec (.cons k p (r.set i o)) (.cons k o r) (Nat.beq k i) : VL) j = if j = i then Option.map (fun _ => o) (Bool.rec (r.find? i) (some p) (Nat.beq k i) : Option VO) else (Bool.rec (r.find? j) (some p) (Nat.beq k j) : Option VO)
    cases hb : Nat.beq k i with
    | false =>
      show (Bool.rec ((r.set i o).find? j) (some p) (Nat.beq k j) : Option VO) = _
      have hk := nat_beq_false hb
      cases hj : Nat.beq k j with
      | false => exact ih
      | true =>
        have e := nat_beq_iff.mp hj
        subst e
        rw [if_neg hk]
    | true =>
      have e := nat_beq_iff.mp hb
      subst e
      show (Bool.rec (r.find? j) (some o) (Nat.beq k j) : Option VO) = _
      cases hj : Nat.beq k j with
      | false => rw [if_neg (fun z => nat_beq_false hj z.symm)]
      | true =>
        rw [if_pos (nat_beq_iff.mp hj).symm]
        rfl
theorem VH.find_put (h : VH) (i : Nat) (o : VO) (j : Nat) : (h.put i o).find? j = if j = i then (h.find? i).map (fun _ => o) else h.find? j := by
  cases h with
  | mk n l => exact VL.find_set l i o j
theorem VH.nxt_put (h : VH) (i : Nat) (o : VO) : (h.put i o).nxt = h.nxt := by cases h; rfl
/-- the heap with a new object -/
def VH.add (h : VH) (o : VO) : VH := .mk (h.nxt + 1) (.cons h.nxt o h.vl)
theorem VH.new_eq (h : VH) (o : VO) (f : Nat → VH → VR) : h.new o f = f h.nxt (h.add o) := by cases h; rfl
theorem VH.find_add (h : VH) (o : VO) (j : Nat) : (h.add o).find? j = if j = h.nxt then some o else h.find? j := by
  show (Bool.rec (h.vl.find? j) (some o) (Nat.beq h.nxt j) : Option VO) = _
  cases hj : Nat.beq h.nxt j with
  | false => rw [if_neg (fun z => nat_beq_false hj z.symm)]; rfl
  | true => rw [if_pos (nat_beq_iff.mp hj).symm]
/-- the text's own: where the classes stand; the world; the program -/
structure Ct where
  G : Nat → Option Addr
  CA : Nat → Option Addr
  P : Program
  w : World
/-- names and values in turn -/
def flatF (fl : List (Str × V)) : List V := fl.flatMap fun p => [V.str p.1, p.2]
/-- an object at a -/
def RO (C : Ct) (r : Rf) (H : Hp) (a : Addr) : VO → Prop
  | .lst s => ∃ xs, H a = some (.lst xs) ∧ RpL r H s xs
  | .dct s => (∃ kvs, H a = some (.dK kvs) ∧ (kvs.map (·.1)).Nodup ∧ RpL r H s (flatK kvs)) ∨ ∃ kvs, H a = some (dN r.w a kvs) ∧ (kvs ≠ [] ∧ nKs s = some (kvs.map (·.1))) ∧ RpL r H s (flatN kvs)
  | .ins c fs => ∃ A dx fl, C.CA c = some A ∧ H a = some (.ins A dx fl) ∧ (fl.map (·.1)).Nodup ∧ RpL r H fs (flatF fl)
structure RH (C : Ct) (r : Rf) (H : Hp) (h : VH) : Prop where
  G : r.G = C.G
  w : r.w = C.w
  obj : ∀ k o, h.find? k = some o → ∃ a, r.ρ k = some a ∧ RO C r H a o
  inj : ∀ j k a, r.ρ j = some a → r.ρ k = some a → j = k
  lim : ∀ k, h.nxt ≤ k → r.ρ k = none
  live : ∀ k a, r.ρ k = some a → ∃ o, H a = some o
theorem RO.not_tup {C : Ct} {r : Rf} {H : Hp} {a : Addr} {o : VO} (h : RO C r H a o) : ∃ q, H a = some q ∧ (∀ xs, q ≠ .tup xs) ∧ ∀ p u, q ≠ .frz p u := by
  cases o with
  | lst s => obtain ⟨xs, e, _⟩ := h; exact ⟨_, e, (fun _ z => by cases z), (fun _ _ z => by cases z)⟩
  | dct s =>
    rcases h with ⟨kvs, e, _⟩ | ⟨kvs, e, _⟩
    · exact ⟨_, e, (fun _ z => by cases z), (fun _ _ z => by cases z)⟩
    · exact ⟨_, e, (fun _ z => by cases z), (fun _ _ z => by cases z)⟩
  | ins c fs => obtain ⟨A, dx, fl, _, e, _⟩ := h; exact ⟨_, e, (fun _ z => by cases z), (fun _ _ z => by cases z)⟩
theorem RO.mono {C : Ct} {r r' : Rf} {H H' : Hp} {a : Addr} (l : r.Le r') (k : Kp r H r' H') (e : H' a = H a) : ∀ {o : VO}, RO C r H a o → RO C r' H' a o
  | .lst s, ⟨xs, h1, h2⟩ => ⟨xs, e.trans h1, h2.mono l k⟩
  | .dct s, .inl ⟨kvs, h1, h2, h3⟩ => .inl ⟨kvs, e.trans h1, h2, h3.mono l k⟩
  | .dct s, .inr ⟨kvs, h1, h2, h3⟩ => .inr ⟨kvs, by rw [l.w]; exact e.trans h1, h2, h3.mono l k⟩
  | .ins c fs, ⟨A, dx, fl, h1, h2, h3, h4⟩ => ⟨A, dx, fl, h1, e.trans h2, h3, h4.mono l k⟩
theorem Kp.more {r : Rf} {H H' : Hp} (n : ∀ a o, H a = some o → H' a = some o) : Kp r H r H' := ⟨fun b xs z => n b _ z, fun b o u z => n b _ z, fun b o z z2 => ⟨n b o z, z2⟩⟩
/-- the heap goes on where only new things came -/
theorem RH.more {C : Ct} {r : Rf} {H H' : Hp} {h : VH} (x : RH C r H h) (n : ∀ a o, H a = some o → H' a = some o) : RH C r H' h := by
  refine ⟨x.G, x.w, fun k o e => ?_, x.inj, x.lim, fun k a e => (x.live k a e).imp fun o z => n a o z⟩
  obtain ⟨a, e1, q⟩ := x.obj k o e
  obtain ⟨p, hp, _⟩ := q.not_tup
  exact ⟨a, e1, q.mono (Rf.Le.refl r) (Kp.more n) ((n a p hp).trans hp.symm)⟩
theorem new_keeps {H : Hp} {p : Addr} {o : HO} (h : H p = none) : ∀ a u, H a = some u → upd H p o a = some u := fun a u e => by rw [upd_ne (ne_of_none e h)]; exact e
/-- a new object that changes -/
def Rf.put (r : Rf) (k : Nat) (a : Addr) : Rf := { r with ρ := fun j => if j = k then some a else r.ρ j }
theorem Rf.put_same (r : Rf) (k : Nat) (a : Addr) : (r.put k a).ρ k = some a := if_pos rfl
theorem Rf.put_ne (r : Rf) {k j : Nat} (a : Addr) (h : j ≠ k) : (r.put k a).ρ j = r.ρ j := if_neg h
theorem RH.le_put {C : Ct} {r : Rf} {H : Hp} {h : VH} (x : RH C r H h) (a : Addr) : r.Le (r.put h.nxt a) := by
  refine ⟨rfl, rfl, fun k b e => ?_⟩
  by_cases hk : k = h.nxt
  · rw [hk, x.lim _ (Nat.le_refl _)] at e; cases e
  · rw [r.put_ne a hk]; exact e
theorem RH.kp_put {C : Ct} {r : Rf} {H : Hp} {h : VH} {p : Addr} {q : HO} (x : RH C r H h) (hp : H p = none) : Kp r H (r.put h.nxt p) (upd H p q) := by
  refine ⟨fun b xs e => new_keeps hp b _ e, fun b o u e => new_keeps hp b _ e, fun b o e e2 => ⟨new_keeps hp b _ e, fun k z => ?_⟩⟩
  by_cases hk : k = h.nxt
  · rw [hk, r.put_same] at z; cases z; rw [hp] at e; cases e
  · rw [r.put_ne p hk] at z; exact e2 k z
theorem RH.add {C : Ct} {r : Rf} {H : Hp} {h : VH} {p : Addr} {q : HO} {o : VO} (x : RH C r H h) (hp : H p = none) (hq : RO C (r.put h.nxt p) (upd H p q) p o) : RH C (r.put h.nxt p) (upd H p q) (h.add o) := by
  have hn : ∀ k a, r.ρ k = some a → a ≠ p := fun k a e z => by obtain ⟨o, h⟩ := x.live k a e; rw [z, hp] at h; cases h
  refine ⟨x.G, x.w, fun k o' e => ?_, fun j k a e1 e2 => ?_, fun k hk => ?_, fun k a e => ?_⟩
  · rw [VH.find_add] at e
    by_cases hk : k = h.nxt
    · rw [if_pos hk] at e; cases e
      exact ⟨p, by rw [hk]; exact r.put_same _ _, hq⟩
    · rw [if_neg hk] at e
      obtain ⟨a, e1, z⟩ := x.obj k o' e
      obtain ⟨y, hy, _⟩ := z.not_tup
      exact ⟨a, by rw [r.put_ne p hk]; exact e1, z.mono (x.le_put p) (x.kp_put hp) (by rw [new_keeps hp a y hy, hy])⟩
  · by_cases hj : j = h.nxt
    · rw [hj, r.put_same] at e1
      by_cases hk : k = h.nxt
      · rw [hj, hk]
      · rw [r.put_ne p hk] at e2
        cases e1
        exact absurd rfl (hn k _ e2)
    · rw [r.put_ne p hj] at e1
      by_cases hk : k = h.nxt
      · rw [hk, r.put_same] at e2
        cases e2
        exact absurd rfl (hn j _ e1)
      · rw [r.put_ne p hk] at e2
        exact x.inj j k a e1 e2
  · have hk : h.nxt + 1 ≤ k := hk
    rw [r.put_ne p (by omega)]
    exact x.lim k (by omega)
  · by_cases hk : k = h.nxt
    · rw [hk, r.put_same] at e; cases e; exact ⟨q, upd_same⟩
    · rw [r.put_ne p hk] at e
      obtain ⟨u, hu⟩ := x.live k a e
      exact ⟨u, new_keeps hp a u hu⟩
/-- an object changed -/
theorem RH.put {C : Ct} {r : Rf} {H : Hp} {h : VH} {k : Nat} {a : Addr} {q : HO} {o o' : VO} (x : RH C r H h) (hk : h.find? k = some o) (ha : r.ρ k = some a) (hq : RO C r (upd H a q) a o') : RH C r (upd H a q) (h.put k o') ∧ Kp r H r (upd H a q) := by
  obtain ⟨a0, e0, z0⟩ := x.obj k o hk
  rw [ha] at e0; cases e0
  obtain ⟨y, hy, n1, n2⟩ := z0.not_tup
  have kp : Kp r H r (upd H a q) := Kp.put ha hy n1 n2
  refine ⟨⟨x.G, x.w, fun j o1 e => ?_, x.inj, fun j hj => x.lim j (by rw [VH.nxt_put] at hj; exact hj), fun j b e => by
    by_cases hb : b = a
    · exact ⟨_, by rw [hb]; exact upd_same⟩
    · obtain ⟨u, hu⟩ := x.live j b e; exact ⟨u, by rw [upd_ne hb]; exact hu⟩⟩, kp⟩
  rw [VH.find_put] at e
  by_cases hj : j = k
  · rw [if_pos hj, hk] at e
    cases e
    exact ⟨a, by rw [hj]; exact ha, hq⟩
  · rw [if_neg hj] at e
    obtain ⟨b, e1, z⟩ := x.obj j o1 e
    have hb : b ≠ a := fun e => hj (x.inj j k a (e ▸ e1) ha)
    exact ⟨b, e1, z.mono (Rf.Le.refl r) kp (upd_ne hb)⟩
/-! ### the slots -/
def RS (r : Rf) (H : Hp) : VS → L2.St → Prop
  | .nil, [] => True
  | .cons u t, some v :: l => Rp r H u v ∧ RS r H t l
  | .un t, _ :: l => RS r H t l
  | _, _ => False
theorem RS.mono {r r' : Rf} {H H' : Hp} (l : r.Le r') (k : Kp r H r' H') : ∀ {s : VS} {σ : L2.St}, RS r H s σ → RS r' H' s σ
  | .nil, [], _ => trivial
  | .cons u t, some v :: σ, ⟨h1, h2⟩ => ⟨h1.mono l k, RS.mono l k h2⟩
  | .un t, _ :: σ, h => RS.mono (s := t) (σ := σ) l k h
  | .nil, _ :: _, h => False.elim h
  | .cons _ _, [], h => False.elim h
  | .cons _ _, none :: _, h => False.elim h
  | .un _, [], h => False.elim h
def VS.get? (s : VS) (i : Nat) : Option U := s.get i none some
theorem VS.get_eq {α : Type} (s : VS) : ∀ (i : Nat) (z : α) (f : U → α), s.get i z f = match s.get? i with | some u => f u | none => z := by
  induction s with
  | nil => intro i z f; rfl
  | cons u t ih =>
    intro i z f
    cases i with
    | zero => rfl
    | succ i => exact ih i z f
  | un t ih =>
    intro i z f
    cases i with
    | zero => rfl
    | succ i => exact ih i z f
theorem RS.get {r : Rf} {H : Hp} : ∀ {s : VS} {σ : L2.St} {i : Nat} {u : U}, RS r H s σ → s.get? i = some u → ∃ v, σ[i]? = some (some v) ∧ Rp r H u v
  | .cons u t, some v :: σ, 0, u', ⟨h1, _⟩, e => by
    cases (show some u = some u' from e)
    exact ⟨v, rfl, h1⟩
  | .cons u t, some v :: σ, i + 1, u', ⟨_, h2⟩, e => by
    obtain ⟨w, e1, q⟩ := RS.get (i := i) h2 (show t.get? i = some u' from e)
    exact ⟨w, e1, q⟩
  | .un t, x :: σ, 0, u', _, e => by cases (show (none : Option U) = some u' from e)
  | .un t, x :: σ, i + 1, u', h, e => by
    obtain ⟨w, e1, q⟩ := RS.get (s := t) (σ := σ) (i := i) h (show t.get? i = some u' from e)
    exact ⟨w, e1, q⟩
  | .nil, _, i, u', _, e => by cases (show (none : Option U) = some u' from e)
  | .cons _ _, [], _, _, h, _ => False.elim h
  | .cons _ _, none :: _, _, _, h, _ => False.elim h
  | .un _, [], _, _, h, _ => False.elim h
theorem RS.set {r : Rf} {H : Hp} : ∀ {s : VS} {σ : L2.St} (i : Nat) {u : U} {v : V}, RS r H s σ → Rp r H u v → RS r H (s.set i u) (σ.set i (some v))
  | .nil, [], i, u, v, h, q => trivial
  | .cons _ t, some _ :: σ, 0, u, v, ⟨_, h2⟩, q => ⟨q, h2⟩
  | .cons _ t, some _ :: σ, i + 1, u, v, ⟨h1, h2⟩, q => ⟨h1, RS.set i h2 q⟩
  | .un t, _ :: σ, 0, u, v, h, q => ⟨q, h⟩
  | .un t, _ :: σ, i + 1, u, v, h, q => RS.set (s := t) (σ := σ) i h q
  | .nil, _ :: _, _, _, _, h, _ => False.elim h
  | .cons _ _, [], _, _, _, h, _ => False.elim h
  | .cons _ _, none :: _, _, _, _, h, _ => False.elim h
  | .un _, [], _, _, _, h, _ => False.elim h
/-! ### the readings -/
/-- what an evaluation comes to, as a reading -/
def tS (C : Ct) (f : VS → VH → VR) : TE := fun σ H Q => ∃ r h s u h', RH C r H h ∧ RS r H s σ ∧ f s h = .one u h' ∧
  ∀ r' H' v, r.Le r' → Kp r H r' H' → RH C r' H' h' → Rp r' H' u v → Q v H'
/-- .. of several values -/
def tSL (C : Ct) (f : VS → VH → VR) : TA := fun σ H Q => ∃ r h s u h', RH C r H h ∧ RS r H s σ ∧ f s h = .one u h' ∧
  ∀ r' H' vs, r.Le r' → Kp r H r' H' → RH C r' H' h' → RpL r' H' u vs → Q vs H'
/-- is it true -/
abbrev truth (u : U) (h : VH) : Option Bool := u.true? h none (some false) (some true)
/-- .. as a test -/
def tST (C : Ct) (f : VS → VH → VR) : TT := fun σ H Q => ∃ r h s u h' b, RH C r H h ∧ RS r H s σ ∧ f s h = .one u h' ∧ truth u h' = some b ∧
  ∀ r' H', r.Le r' → Kp r H r' H' → RH C r' H' h' → Q b H'
theorem bind_one {r : VR} {f : U → VH → VR} {u : U} {h : VH} (e : VR.bind r f = .one u h) : ∃ x h1, r = .one x h1 ∧ f x h1 = .one u h := by
  cases r with
  | one x h1 => exact ⟨x, h1, rfl, e⟩
  | bad n => cases (show VR.bad n = .one u h from e)
/-- an expression that does as its evaluation -/
def SE (C : Ct) (X : Cx) (e : Expr) (f : Sem) : Prop := ∀ c, PE X e (tS C (f c))
def SL (C : Ct) (X : Cx) (es : List Expr) (f : Sem) : Prop := ∀ c, PA X es (tSL C (f c))
theorem _root_.L2.PE.weak {X : Cx} {e : Expr} {t t' : TE} (h : PE X e t) (w : ∀ σ H Q, t' σ H Q → t σ H Q) : PE X e t' := ⟨fun pins s σ H Q I q => h.run pins s σ H Q I (w σ H Q q)⟩
theorem _root_.L2.PA.weak {X : Cx} {es : List Expr} {t t' : TA} (h : PA X es t) (w : ∀ σ H Q, t' σ H Q → t σ H Q) : PA X es t' := ⟨fun pos pins s σ H Q I q => h.run pos pins s σ H Q I (w σ H Q q)⟩
end
end VI
namespace VI
open PySem PySem.Spec PyProof.Rows L2
noncomputable section
/-! ### freezing -/
theorem _root_.L2.Inv.frz {X : Cx} {pins : List (Addr × Obj)} {σ : L2.St} {H : Hp} {s : Shared} {a : Addr} {q : HO} (I : Inv X pins σ H s) (h : H a = some q) (hq : (∃ xs, q = .lst xs) ∨ (∃ φ, q = .ext φ) ∨ ∃ kvs, q = .dK kvs) : ∃ o, Inv X pins σ (upd H a (.frz o q)) s := by
  obtain ⟨o, ho⟩ : ∃ o, s.heap.get? a = some o := by
    have z := I.hok a q h
    rcases hq with ⟨xs, rfl⟩ | ⟨φ, rfl⟩ | ⟨kvs, rfl⟩
    · obtain ⟨_, its, n, _, e⟩ := z; exact ⟨_, e⟩
    · obtain ⟨_, ⟨o, e⟩, _⟩ := z; exact ⟨o, e⟩
    · obtain ⟨_, _, _, _, o, _, _, e, _⟩ := z; exact ⟨o, e⟩
  have nt : ∀ xs, q ≠ .tup xs := fun xs z => by rcases hq with ⟨_, rfl⟩ | ⟨_, rfl⟩ | ⟨_, rfl⟩ <;> cases z
  have nf : ∀ o u, q ≠ .frz o u := fun o u z => by rcases hq with ⟨_, rfl⟩ | ⟨_, rfl⟩ | ⟨_, rfl⟩ <;> cases z
  have nb : ∀ o, q ≠ .tbl o := fun o z => by rcases hq with ⟨_, rfl⟩ | ⟨_, rfl⟩ | ⟨_, rfl⟩ <;> cases z
  have no : ∀ o, q ≠ .own o := fun o z => by rcases hq with ⟨_, rfl⟩ | ⟨_, rfl⟩ | ⟨_, rfl⟩ <;> cases z
  have nea : ∀ b, H b = none → b ≠ a := fun b e z => by rw [z, h] at e; cases e
  refine ⟨o, I.ok, I.os, I.bare, ⟨I.base.keep, I.base.slot, fun b ob e n hx => ?_, I.base.there, fun b xs e => ?_, fun b ob u e => ?_, fun b ps e => ?_⟩, I.loc, I.cell, ?_, fun x c e => ?_, fun p hp => ?_, fun b u e => ?_, I.len⟩
  · have z := I.base.free b ob e n hx
    rw [upd_ne (nea b z)]; exact z
  · have z := I.base.tups b xs e
    rw [upd_ne (fun y => by rw [y, h] at z; cases z; exact nt _ rfl)]; exact z
  · have z := I.base.frzs b ob u e
    rw [upd_ne (fun y => by rw [y, h] at z; cases z; exact nf _ _ rfl)]; exact z
  · obtain ⟨m, z⟩ := I.base.tbls b ps e
    refine ⟨m, ?_⟩
    rw [upd_ne (fun y => by rw [y, h] at z; cases z; exact nb _ rfl)]; exact z
  · rw [upd_ne (nea _ I.free)]; exact I.free
  · rw [upd_ne (nea _ (I.freeC x c e))]; exact I.freeC x c e
  · obtain ⟨e, n, z⟩ := I.pin p hp
    exact ⟨e, by rw [upd_ne (nea _ n)]; exact n, z⟩
  · have st : ∀ c v, ObjOk X.prog X.w H s.heap c v → ObjOk X.prog X.w (upd H a (.frz o q)) s.heap c v := fun c v z =>
      z.stay (fun _ _ _ r => r) (fun d r => by rw [upd_ne (fun y => by rw [y, h] at r; cases r; exact no _ rfl)]; exact r) fun d xs r => by rw [upd_ne (fun y => by rw [y, h] at r; cases r; exact nt _ rfl)]; exact r
    by_cases hb : b = a
    · subst hb
      rw [upd_same] at e; cases e
      exact ⟨ho, st b q (I.hok b q h)⟩
    · rw [upd_ne hb] at e
      exact st b u (I.hok b u e)
/-- a new list, frozen at once -/
theorem _root_.L2.PE.frz {X : Cx} {e : Expr} {t : TE} (h : PE X e t) : PE X e (fun σ H Q => t σ H fun v H1 => ∃ a xs, v = .ref a ∧ H1 a = some (.lst xs) ∧ ∀ o, Q v (upd H1 a (.frz o (.lst xs)))) := by
  refine ⟨fun pins s σ H Q I q => ?_⟩
  refine thn (h.run pins s σ H _ I q) fun u s1 ⟨v, H1, I1, r, a, xs, e, ha, q1⟩ => ?_
  obtain ⟨o, I2⟩ := I1.frz ha (.inl ⟨xs, rfl⟩)
  exact ⟨v, _, I2, r, q1 o⟩
/-! ### what the context knows -/
structure XC (C : Ct) (X : Cx) (k : Nat) : Prop where
  P : X.prog = C.P
  w : X.w = C.w
  calm : X.calm = true
  room : Room k X.A
  nd : X.N.Nodup
section
variable {C : Ct} {X : Cx} {k : Nat} {p : Prog} {call : Nat → U → VH → VR} {a b c e : Expr} {es : List Expr} {ea eb ec : VE} {pos : Pos}
/-! ### lists of values -/
theorem l_nil : SL C X [] (ev p call .nil) := fun c => pa_nil.weak fun σ H Q ⟨r, h, s, u, h', rh, rs, e, q⟩ => by
  cases (show VR.one .nil h = .one u h' from e)
  exact q r H [] (Rf.Le.refl r) (Kp.refl H) rh rfl
theorem l_cons (ha : SE C X e (ev p call ea)) (hb : SL C X es (ev p call eb)) (hs : starEach (e :: es) X.env = (false, eval e X.env) :: starEach es X.env := by rfl) : SL C X (e :: es) (ev p call (.cons ea eb)) := fun c => by
  refine (pa_cons (ha c) (hb c) hs).weak fun σ H Q ⟨r, h, s, u, h', rh, rs, e, q⟩ => ?_
  obtain ⟨x, h1, e1, e⟩ := bind_one e
  obtain ⟨y, h2, e2, e⟩ := bind_one e
  cases (show VR.one (.cons x y) h2 = .one u h' from e)
  refine ⟨r, h, s, x, h1, rh, rs, e1, fun r1 H1 v1 l1 k1 rh1 p1 => ⟨r1, h1, s, y, _, rh1, rs.mono l1 k1, e2, fun r2 H2 vs l2 k2 rh2 p2 => ?_⟩⟩
  exact q r2 H2 (v1 :: vs) (l1.trans l2) (k1.trans k2) rh2 ⟨v1, vs, rfl, p1.mono l2 k2, p2⟩
/-! ### names and constants -/
theorem r_var {i : Nat} {x : Str} (hN : X.N[i]? = some x) (hv : Vis X.env.scope x) (hd : (x == ("__debug__" : Str)) = false := by decide) (hcd : (x == ("__classdict__" : Str)) = false := by decide) : SE C X (.Name x pos) (ev p call (.var i)) := fun c => by
  refine (pe_var hN hv hd hcd).weak fun σ H Q ⟨r, h, s, u, h', rh, rs, e, q⟩ => ?_
  have e : s.get i (.bad 102) (fun u => VR.one u h) = .one u h' := e
  rw [s.get_eq] at e
  cases hg : s.get? i with
  | none => rw [hg] at e; cases e
  | some u0 =>
    rw [hg] at e
    cases e
    obtain ⟨v, ev, pv⟩ := rs.get hg
    exact ⟨v, ev, q r H v (Rf.Le.refl r) (Kp.refl H) rh pv⟩
theorem r_cst {u : U} {v : V} {e : Expr} (h : PE X e (tC v)) (hr : ∀ r H, Rp r H u v) : SE C X e (ev p call (.cst u)) := fun c => by
  refine h.weak fun σ H Q ⟨r, h, s, u', h', rh, rs, e, q⟩ => ?_
  cases (show VR.one u h = .one u' h' from e)
  exact q r H v (Rf.Le.refl r) (Kp.refl H) rh (hr r H)
theorem r_int {i : Int} {j : Nat} : SE C X (.Constant (.int i) j pos) (ev p call (.cst (.int i))) := r_cst pe_int fun _ _ => rfl
theorem r_bl {x : Bool} {j : Nat} : SE C X (.Constant (.bool x) j pos) (ev p call (.cst (.bl x))) := r_cst pe_bl fun _ _ => rfl
theorem r_non {j : Nat} : SE C X (.Constant .none j pos) (ev p call (.cst .non)) := r_cst pe_non fun _ _ => rfl
theorem r_str {x : Str} {n j : Nat} (h : StrIs n x) : SE C X (.Constant (.str x) j pos) (ev p call (.cst (.str n))) := r_cst pe_str fun _ _ => ⟨x, rfl, h⟩
/-- a constant of the module -/
theorem r_gstr {x y : Str} {n : Nat} {t : Tok} (hg : Gl X y) (hm : X.mg y = some (.str x t)) (h : StrIs n x) (hd : (y == ("__debug__" : Str)) = false := by decide) : SE C X (.Name y pos) (ev p call (.cst (.str n))) := r_cst (pe_glob (v := .str x) hg hm ⟨t, rfl⟩ hd) fun _ _ => ⟨x, rfl, h⟩
theorem r_gint {y : Str} {i : Int} {t : Tok} (hg : Gl X y) (hm : X.mg y = some (.int i t)) (hd : (y == ("__debug__" : Str)) = false := by decide) : SE C X (.Name y pos) (ev p call (.cst (.int i))) := r_cst (pe_glob (v := .int i) hg hm ⟨t, rfl⟩ hd) fun _ _ => rfl
/-- a def of the module as a value -/
theorem r_gf {y : Str} {f : Nat} {A : Addr} (hg : Gl X y) (hm : X.mg y = some (.ref A)) (h : C.G f = some A) (hd : (y == ("__debug__" : Str)) = false := by decide) : SE C X (.Name y pos) (ev p call (.cst (.gf f))) := fun c => by
  refine (pe_glob (v := .ref A) hg hm rfl hd).weak fun σ H Q ⟨r, h0, s, u', h', rh, rs, e, q⟩ => ?_
  cases (show VR.one (.gf f) h0 = .one u' h' from e)
  exact q r H _ (Rf.Le.refl r) (Kp.refl H) rh ⟨A, rfl, by rw [rh.G]; exact h⟩
end
end
end VI
namespace VI
open PySem PySem.Spec PyProof.Rows L2
noncomputable section
theorem _root_.L2.SqT.ofF {K : PySem.W.Frag} {H : Hp} {a : Addr} {o : Obj} {xs : List V} (h : H a = some (.frz o (.tup xs))) : SqT K H a xs := .inl (.inr ⟨o, h⟩)
/-- a tuple that is known to the object -/
def tupObj (its : List Value) : Obj := { cls := .type "tuple", data := .seq its.toArray }
theorem laidT {X : Cx} {pins : List (Addr × Obj)} {σ : L2.St} {H : Hp} {s : Shared} {ys : List V} {its : List Value} {t' : Nat} (I : Inv X pins σ H s) (hv : Vals ys its) (hz : ys.length ≤ sizeLine) :
    Inv X pins σ (upd H s.heap.objs.size (.frz (tupObj its) (.tup ys))) { s with heap := s.heap.push (tupObj its), toks := t' } :=
  I.laid (fun _ _ q => Heap.get?_push_of_some _ q) (Nat.le_refl _) ⟨Heap.get?_push_size _ rfl, hz, its, hv, IsTup.new _ _⟩
section
variable {X : Cx} {es : List Expr} {t : TA} {pos : Pos}
theorem pe_tupF {x1} (h : PA X es t) : PE X (.Tuple es x1 pos) (fun σ H Q => t σ H fun xs H1 => xs.length ≤ sizeLine ∧ ∀ p o, H1 p = none → o.dict = none → Q (.ref p) (upd H1 p (.frz o (.tup xs)))) := by
  refine ⟨fun pins s σ H Q I hq => ?_⟩
  refine wpAny_Tuple_spliced (thn (h.run pos pins s σ H _ I hq) fun us s1 ⟨xs, H1, I1, r, z, q⟩ => ⟨by rw [← r.length]; exact z, ?_⟩)
  exact ⟨.ref s1.heap.objs.size, _, laidT (t' := s1.toks) I1 r z, rfl, q _ _ (I1.hok.fresh (Nat.le_refl _)) rfl⟩
def rCatF (K : PySem.W.Frag) : R2 := fun x y H Q => ∃ a b xs ys, x = .ref a ∧ y = .ref b ∧ SqT K H a xs ∧ SqT K H b ys ∧ xs.length + ys.length ≤ sizeLine ∧
  (xs = [] → Q (.ref b) H) ∧ (xs ≠ [] → ys = [] → Q (.ref a) H) ∧ ∀ p o, H p = none → o.dict = none → Q (.ref p) (upd H p (.frz o (.tup (xs ++ ys))))
theorem op_catF : OpR X (binaryOp .Add) (rCatF X.K) := by
  intro pins s σ H x y v u Q I rx ry h
  obtain ⟨a, b, xs, ys, rfl, rfl, ha, hb, hz, q0, q1, q2⟩ := h
  cases rx
  cases ry
  obtain ⟨its, r1, p1, _⟩ := I.tuple ha
  obtain ⟨its2, r2, p2, _⟩ := I.tuple hb
  by_cases hx : xs = []
  · subst hx
    cases r1
    exact cat_tup0 p1 p2 ⟨.ref b, H, I, rfl, q0 rfl⟩
  · refine HT.cat_tup p1 p2 (fun z => hx (r1.nil_iff.mp z)) (fun z => ⟨.ref a, H, I, rfl, q1 hx (r2.nil_iff.mp z)⟩) (fun z => ?_) (by rw [← r1.length, ← r2.length]; exact hz)
    exact ⟨.ref s.heap.objs.size, _, laidT (t' := s.toks) I (r1.append r2) (by rw [List.length_append]; exact hz), rfl, q2 _ _ (I.hok.fresh (Nat.le_refl _)) rfl⟩
def rSlF (K : PySem.W.Frag) : V → Option Int → Option Int → Hp → VK → Prop := fun x lo hi H Q => ∃ a xs, x = .ref a ∧ SqT K H a xs ∧
  (HT.sIx xs.length 0 lo = 0 ∧ HT.sIx xs.length xs.length hi = xs.length → Q (.ref a) H) ∧ ∀ p o, H p = none → o.dict = none → Q (.ref p) (upd H p (.frz o (.tup (cutV xs lo hi))))
theorem sl_tupF : SlR X (rSlF X.K) := by
  intro pins s σ H x v vl vu lo hi sl Q I rx hs pl pu h
  obtain ⟨a, xs, rfl, hx, q1, q2⟩ := h
  cases rx
  obtain ⟨its, r, ht, hz⟩ := I.tuple hx
  have hlen : its.toArray.size = xs.length := by rw [List.size_toArray]; exact r.length.symm
  refine ⟨"tuple", _, PyProof.Rows.slot_tuple_getitem.lookup, ht.typeIs, ?_⟩
  by_cases hw : HT.sIx xs.length 0 lo = 0 ∧ HT.sIx xs.length xs.length hi = xs.length
  · exact getItem_tuple_whole ht hs pl pu (by rw [hlen]; exact hw) ⟨.ref a, H, I, rfl, q1 hw⟩
  · refine HT.getItem_tuple_cut ht hs pl pu (by rw [hlen]; exact hw) ?_ (by rw [hlen]; exact hz)
    rw [hlen]
    exact ⟨.ref s.heap.objs.size, _, laidT (t' := s.toks) I ((r.drop (HT.sIx xs.length 0 lo)).take (HT.sIx xs.length xs.length hi - HT.sIx xs.length 0 lo)) (Nat.le_trans (cutV_length xs lo hi) hz), rfl, q2 _ _ (I.hok.fresh (Nat.le_refl _)) rfl⟩
theorem call_tupleF : CallR X (.type "tuple") (fun xs H Q => ∃ p ys, xs = [.ref p] ∧ ((SqL X.K H p ys ∧ ∀ l o, H l = none → o.dict = none → Q (.ref l) (upd H l (.frz o (.tup ys)))) ∨ (SqT X.K H p ys ∧ Q (.ref p) H))) := by
  intro pins s σ H xs us Q I r h
  obtain ⟨p, ys, rfl, h⟩ := h
  obtain ⟨u, rfl, rx⟩ := vals1 r
  cases rx
  rcases h with ⟨hq, q⟩ | ⟨hq, q⟩
  · obtain ⟨its, r', pl, hz⟩ := I.list hq
    have hlen := r'.length
    refine call_tuple_list pl.isList (fun h' kp => ?_) (by simp only [List.size_toArray] <;> omega)
    have I1 : Inv X pins σ H { s with heap := h' } := I.kept (t' := s.toks) kp
    exact ⟨.ref h'.objs.size, _, laidT (t' := s.toks) I1 r' hz, rfl, q _ _ (I1.hok.fresh (Nat.le_refl _)) rfl⟩
  · obtain ⟨its, r', pl, hz⟩ := I.tuple hq
    exact call_tuple_same pl ⟨.ref p, H, I, rfl, q⟩
end
end
end VI
namespace VI
open PySem PySem.Spec PyProof.Rows L2
noncomputable section
/-! ### data -/
section
variable {r : Rf} {H : Hp} {K : PySem.W.Frag}
theorem uD_str {n : Nat} {d : PyData} (h : uD (.str n) = some d) : d = .str (dec n) ∧ encL (charsL n) = n ∧ PyData.strOk (dec n) = true := by
  have h : (if encL (charsL n) = n ∧ PyData.strOk (dec n) = true then some (PyData.str (dec n)) else none) = some d := h
  split at h
  · rename_i c; cases h; exact ⟨rfl, c.1, c.2⟩
  · cases h
theorem uD_of_str {n : Nat} {x : Str} (h : StrIs n x) : uD (.str n) = some (.str x) := by
  obtain ⟨rfl, h2, h3⟩ := h
  exact if_pos ⟨h2, h3⟩
theorem uL_cons {a b : U} {ds : List PyData} (h : uL (.cons a b) = some ds) : ∃ x xs, ds = x :: xs ∧ uD a = some x ∧ uL b = some xs := by
  have h : (match (UD a).1, (UD b).2 with | some x, some xs => some (x :: xs) | _, _ => none) = some ds := h
  split at h
  · rename_i x xs e1 e2; cases h; exact ⟨x, xs, rfl, e1, e2⟩
  · cases h
theorem uL_of_cons {a b : U} {x : PyData} {xs : List PyData} (h1 : uD a = some x) (h2 : uL b = some xs) : uL (.cons a b) = some (x :: xs) := by
  show (match (UD a).1, (UD b).2 with | some x, some xs => some (x :: xs) | _, _ => none) = _
  rw [show (UD a).1 = some x from h1, show (UD b).2 = some xs from h2]
theorem uD_tup {d : Nat} {s : U} {x : PyData} (h : uD (.tup d s) = some x) : ∃ ds, x = .tuple ds ∧ uL s = some ds := by
  have h : (UD s).2.map PyData.tuple = some x := h
  cases e : (UD s).2 with
  | none => rw [e] at h; cases h
  | some ds => rw [e] at h; cases h; exact ⟨ds, rfl, e⟩
theorem uD_vl {d : Nat} {s : U} {x : PyData} (h : uD (.vl d s) = some x) : ∃ ds, x = .list ds ∧ uL s = some ds := by
  have h : (UD s).2.map PyData.list = some x := h
  cases e : (UD s).2 with
  | none => rw [e] at h; cases h
  | some ds => rw [e] at h; cases h; exact ⟨ds, rfl, e⟩
/-- data as HandS says it -/
theorem dp_of : ∀ u : U, (∀ v d, uD u = some d → Rp r H u v → Dp K H v d) ∧ (∀ xs ds, uL u = some ds → RpL r H u xs → DpAll K H xs ds)
  | .non => ⟨fun v d e h => by cases (show some PyData.none = some d from e); cases (show v = .non from h); exact .non, fun _ _ e => nomatch e⟩
  | .bl b => ⟨fun v d e h => by cases (show some (PyData.bool b) = some d from e); cases (show v = .bl b from h); exact .bl b, fun _ _ e => nomatch e⟩
  | .int i => ⟨fun v d e h => by cases (show some (PyData.int i) = some d from e); cases (show v = .int i from h); exact .int i, fun _ _ e => nomatch e⟩
  | .str n => ⟨fun v d e h => by
      obtain ⟨rfl, _⟩ := uD_str e
      obtain ⟨x, rfl, hx, _⟩ := (show ∃ x, v = .str x ∧ StrIs n x from h)
      subst hx
      exact .str _, fun _ _ e => nomatch e⟩
  | .nil => ⟨fun _ _ e => (nomatch e), fun xs ds e h => by
      cases (show some ([] : List PyData) = some ds from e)
      cases (show xs = [] from h)
      exact .nil⟩
  | .cons a b => ⟨fun _ _ e => (nomatch e), fun xs ds e h => by
      obtain ⟨x, ys, rfl, e1, e2⟩ := uL_cons e
      obtain ⟨v, vs, rfl, h1, h2⟩ := (show ∃ x ys, xs = x :: ys ∧ Rp r H a x ∧ RpL r H b ys from h)
      exact .cons ((dp_of a).1 v x e1 h1) ((dp_of b).2 vs ys e2 h2)⟩
  | .tup d s => ⟨fun v x e h => by
      obtain ⟨ds, rfl, e9⟩ := uD_tup e
      obtain ⟨a, o, xs, rfl, h1, _, h2, _⟩ := (show ∃ a o xs, v = .ref a ∧ H a = some (.frz o (.tup xs)) ∧ o.dict = none ∧ RpL r H s xs ∧ Dep d s from h)
      exact .tup (SqT.ofF h1) ((dp_of s).2 xs ds e9 h2), fun _ _ e => nomatch e⟩
  | .vl d s => ⟨fun v x e h => by
      obtain ⟨ds, rfl, e9⟩ := uD_vl e
      obtain ⟨a, o, xs, rfl, h1, h2, _⟩ := (show ∃ a o xs, v = .ref a ∧ H a = some (.frz o (.lst xs)) ∧ RpL r H s xs ∧ Dep d s from h)
      exact .lst (.inl (.inr ⟨o, h1⟩)) ((dp_of s).2 xs ds e9 h2), fun _ _ e => nomatch e⟩
  | .vd _ => ⟨fun _ _ e => (nomatch e), fun _ _ e => nomatch e⟩
  | .ref _ => ⟨fun _ _ e => (nomatch e), fun _ _ e => nomatch e⟩
  | .gf _ => ⟨fun _ _ e => (nomatch e), fun _ _ e => nomatch e⟩
  | .clo _ _ => ⟨fun _ _ e => (nomatch e), fun _ _ e => nomatch e⟩
theorem maxN_eq (a b : Nat) : maxN a b = max a b := by
  show (Bool.rec a b (Nat.ble a b) : Nat) = max a b
  cases h : Nat.ble a b with
  | false =>
    have : ¬ a ≤ b := fun z => by rw [Nat.ble_eq.mpr z] at h; cases h
    show a = max a b
    omega
  | true =>
    have : a ≤ b := Nat.ble_eq.mp h
    show b = max a b
    omega
theorem dpC_pos {x y : Nat} (h : dpC x y ≠ 0) : x ≠ 0 ∧ y ≠ 0 ∧ dpC x y = max x y := by
  cases x with
  | zero => exact absurd rfl h
  | succ x =>
    cases y with
    | zero => exact absurd rfl h
    | succ y => exact ⟨Nat.succ_ne_zero _, Nat.succ_ne_zero _, maxN_eq _ _⟩
/-- an item whose depth is told is data -/
theorem data_of {u : U} {v : V} (h : Rp r H u v) (hd : dpI u ≠ 0) : ∃ d, uD u = some d ∧ PyData.canLay0 d = true ∧ PyData.depth d + 1 ≤ dpI u ∧ dpI u ≤ 51 := by
  cases u with
  | non => exact ⟨.none, rfl, rfl, by decide, by decide⟩
  | bl b => exact ⟨.bool b, rfl, rfl, by simp [PyData.depth, dpI, U.cases], by simp [dpI, U.cases]⟩
  | int i => exact ⟨.int i, rfl, rfl, by simp [PyData.depth, dpI, U.cases], by simp [dpI, U.cases]⟩
  | str n =>
    obtain ⟨x, rfl, hx⟩ := (show ∃ x, v = .str x ∧ StrIs n x from h)
    exact ⟨.str x, uD_of_str hx, by rw [PyData.canLay0]; exact hx.2.2, by simp [PyData.depth, dpI, U.cases], by simp [dpI, U.cases]⟩
  | nil => exact False.elim h
  | cons a b => exact False.elim h
  | tup d s =>
    cases d with
    | zero => exact absurd rfl hd
    | succ d =>
      obtain ⟨a, o, xs, rfl, h1, _, h2, h3⟩ := (show ∃ a o xs, v = .ref a ∧ H a = some (.frz o (.tup xs)) ∧ o.dict = none ∧ RpL r H s xs ∧ Dep (d + 1) s from h)
      obtain ⟨ds, e, c, dd, l⟩ := h3 (Nat.succ_ne_zero _)
      refine ⟨.tuple ds, ?_, by rw [PyData.canLay0]; exact c, ?_, ?_⟩
      · show (UD s).2.map PyData.tuple = _
        rw [show (UD s).2 = some ds from e]; rfl
      · show PyData.depth (.tuple ds) + 1 ≤ d + 2
        rw [PyData.depth]; omega
      · show d + 2 ≤ 51
        omega
  | vl d s =>
    cases d with
    | zero => exact absurd rfl hd
    | succ d =>
      obtain ⟨a, o, xs, rfl, h1, h2, h3⟩ := (show ∃ a o xs, v = .ref a ∧ H a = some (.frz o (.lst xs)) ∧ RpL r H s xs ∧ Dep (d + 1) s from h)
      obtain ⟨ds, e, c, dd, l⟩ := h3 (Nat.succ_ne_zero _)
      refine ⟨.list ds, ?_, by rw [PyData.canLay0]; exact c, ?_, ?_⟩
      · show (UD s).2.map PyData.list = _
        rw [show (UD s).2 = some ds from e]; rfl
      · show PyData.depth (.list ds) + 1 ≤ d + 2
        rw [PyData.depth]; omega
      · show d + 2 ≤ 51
        omega
  | vd s => exact absurd rfl hd
  | ref k => exact absurd rfl hd
  | gf f => exact absurd rfl hd
  | clo f c => exact absurd rfl hd
theorem datas_of : ∀ {s : U} {xs : List V}, RpL r H s xs → dpS s ≠ 0 → ∃ ds, uL s = some ds ∧ PyData.canLayAll0 ds = true ∧ PyData.depthAll ds + 1 ≤ dpS s
  | .nil, xs, h, _ => ⟨[], rfl, by simp [PyData.canLayAll0], by simp [PyData.depthAll, dpS, U.sp]⟩
  | .cons a b, xs, h, hd => by
    obtain ⟨v, vs, rfl, h1, h2⟩ := (show ∃ x ys, xs = x :: ys ∧ Rp r H a x ∧ RpL r H b ys from h)
    have hd : dpC (dpI a) (dpS b) ≠ 0 := hd
    obtain ⟨n1, n2, e⟩ := dpC_pos hd
    obtain ⟨d, e1, c1, l1, _⟩ := data_of h1 n1
    obtain ⟨ds, e2, c2, l2⟩ := datas_of h2 n2
    refine ⟨d :: ds, uL_of_cons e1 e2, by rw [PyData.canLayAll0, c1, c2]; rfl, ?_⟩
    show PyData.depthAll (d :: ds) + 1 ≤ dpC (dpI a) (dpS b)
    rw [e, PyData.depthAll]
    omega
  | .non, _, h, _ => False.elim h
  | .bl _, _, h, _ => False.elim h
  | .int _, _, h, _ => False.elim h
  | .str _, _, h, _ => False.elim h
  | .tup _ _, _, h, _ => False.elim h
  | .vl _ _, _, h, _ => False.elim h
  | .vd _, _, h, _ => False.elim h
  | .ref _, _, h, _ => False.elim h
  | .gf _, _, h, _ => False.elim h
  | .clo _ _, _, h, _ => False.elim h
theorem dpL_pos {n : Nat} (h : dpL n ≠ 0) : dpL n = n ∧ n ≤ 50 := by
  have e : dpL n = (Bool.rec 0 n (Nat.ble n 50) : Nat) := rfl
  cases hb : Nat.ble n 50 with
  | false => rw [e, hb] at h; exact absurd rfl h
  | true => rw [e, hb]; exact ⟨rfl, Nat.ble_eq.mp hb⟩
theorem dep_of {s : U} {xs : List V} (h : RpL r H s xs) : Dep (dpL (dpS s)) s := fun hn => by
  obtain ⟨e, l⟩ := dpL_pos hn
  rw [e] at hn ⊢
  obtain ⟨ds, e1, c, d⟩ := datas_of h hn
  exact ⟨ds, e1, c, d, l⟩
theorem Dep.zero {s : U} : Dep 0 s := fun h => absurd rfl h
/-- a tuple, a frozen list -/
theorem rp_mkT {s : U} {xs : List V} {a : Addr} (h : RpL r H s xs) {o : Obj} (e : H a = some (.frz o (.tup xs))) (e0 : o.dict = none) : Rp r H (mkT s) (.ref a) := ⟨a, o, xs, rfl, e, e0, h, dep_of h⟩
theorem rp_mkL {s : U} {xs : List V} {a : Addr} {o : Obj} (h : RpL r H s xs) (e : H a = some (.frz o (.lst xs))) : Rp r H (mkL s) (.ref a) := ⟨a, o, xs, rfl, e, h, dep_of h⟩
theorem RpL.length : ∀ {s : U} {xs : List V}, RpL r H s xs → xs.length = s.len
  | .nil, xs, h => by cases (show xs = [] from h); rfl
  | .cons a b, xs, h => by
    obtain ⟨v, vs, rfl, _, h2⟩ := (show ∃ x ys, xs = x :: ys ∧ Rp r H a x ∧ RpL r H b ys from h)
    show vs.length + 1 = b.len + 1
    rw [RpL.length h2]
  | .non, _, h => False.elim h
  | .bl _, _, h => False.elim h
  | .int _, _, h => False.elim h
  | .str _, _, h => False.elim h
  | .tup _ _, _, h => False.elim h
  | .vl _ _, _, h => False.elim h
  | .vd _, _, h => False.elim h
  | .ref _, _, h => False.elim h
  | .gf _, _, h => False.elim h
  | .clo _ _, _, h => False.elim h
theorem RpL.app : ∀ {s t : U} {xs ys : List V}, RpL r H s xs → RpL r H t ys → RpL r H (s.app t) (xs ++ ys)
  | .nil, t, xs, ys, h, q => by cases (show xs = [] from h); exact q
  | .cons a b, t, xs, ys, h, q => by
    obtain ⟨v, vs, rfl, h1, h2⟩ := (show ∃ x ys, xs = x :: ys ∧ Rp r H a x ∧ RpL r H b ys from h)
    exact ⟨v, vs ++ ys, rfl, h1, RpL.app h2 q⟩
  | .non, _, _, _, h, _ => False.elim h
  | .bl _, _, _, _, h, _ => False.elim h
  | .int _, _, _, _, h, _ => False.elim h
  | .str _, _, _, _, h, _ => False.elim h
  | .tup _ _, _, _, _, h, _ => False.elim h
  | .vl _ _, _, _, _, h, _ => False.elim h
  | .vd _, _, _, _, h, _ => False.elim h
  | .ref _, _, _, _, h, _ => False.elim h
  | .gf _, _, _, _, h, _ => False.elim h
  | .clo _ _, _, _, _, h, _ => False.elim h
end
/-! ### equality -/
theorem beqI_eq (i j : Int) : beqI i j = decide (i = j) := by
  cases i with
  | ofNat a =>
    cases j with
    | ofNat b =>
      show Nat.beq a b = _
      cases h : Nat.beq a b with
      | true => rw [nat_beq_iff.mp h]; simp
      | false => have := nat_beq_false h; simp; omega
    | negSucc b => show false = _; simp
  | negSucc a =>
    cases j with
    | ofNat b => show false = _; simp
    | negSucc b =>
      show Nat.beq a b = _
      cases h : Nat.beq a b with
      | true => rw [nat_beq_iff.mp h]; simp
      | false => have := nat_beq_false h; simp; omega
theorem beqB_eq (b c : Bool) : beqB b c = (b == c) := by cases b <;> cases c <;> rfl
theorem b2i_eq (b : Bool) : VI.b2i b = if b then 1 else 0 := by cases b <;> rfl
theorem tri_yes {b : Bool} : tri b = .yes → b = true := by cases b <;> intro h <;> first | rfl | cases h
theorem tri_no {b : Bool} : tri b = .no → b = false := by cases b <;> intro h <;> first | rfl | cases h
/-- what eqU says -/
def Says (t : Tri) (b : Bool) : Prop := (t = .yes → b = true) ∧ (t = .no → b = false)
theorem says_tri {b c : Bool} (h : b = c) : Says (tri b) c := ⟨fun e => h ▸ tri_yes e, fun e => h ▸ tri_no e⟩
theorem says_no : Says .no false := ⟨(fun e => by cases e), fun _ => rfl⟩
theorem says_yes : Says .yes true := ⟨fun _ => rfl, (fun e => by cases e)⟩
theorem says_unk {b : Bool} : Says .unk b := ⟨(fun e => by cases e), (fun e => by cases e)⟩
theorem says_dno {d : Nat} : Says (dno d) false := by cases d; exact says_unk; exact says_no
theorem dec_inj {n m : Nat} (h1 : encL (charsL n) = n) (h2 : encL (charsL m) = m) (e : dec n = dec m) : n = m := by
  have : charsL n = charsL m := by
    have := congrArg Str.cps e
    simpa [dec] using this
  rw [← h1, ← h2, this]
theorem says_str {n m : Nat} (h1 : encL (charsL n) = n) (h2 : encL (charsL m) = m) : Says (tri (Nat.beq n m)) (dec n == dec m) := by
  refine says_tri ?_
  cases h : Nat.beq n m with
  | true => rw [nat_beq_iff.mp h]; simp
  | false =>
    have := nat_beq_false h
    symm
    rw [beq_eq_false_iff_ne]
    exact fun e => this (dec_inj h1 h2 e)
theorem eqU_ok : ∀ a b : U, (∀ d e, uD a = some d → uD b = some e → Says (eqU a b) (PyData.eqv d e)) ∧ (∀ ds es, uL a = some ds → uL b = some es → Says (eqU a b) (PyData.eqvAll ds es)) := by
  intro a
  induction a with
  | non =>
    intro b
    refine ⟨fun d e h1 h2 => ?_, fun _ _ h => (nomatch h)⟩
    cases (show some PyData.none = some d from h1)
    cases b <;> first
      | (cases (show some _ = some e from h2); first | exact says_yes | exact says_no)
      | (obtain ⟨rfl, _⟩ := uD_str h2; exact says_no)
      | (obtain ⟨_, rfl, _⟩ := uD_tup h2; exact says_dno)
      | (obtain ⟨_, rfl, _⟩ := uD_vl h2; exact says_dno)
      | exact says_unk
  | bl x =>
    intro b
    refine ⟨fun d e h1 h2 => ?_, fun _ _ h => (nomatch h)⟩
    cases (show some (PyData.bool x) = some d from h1)
    cases b with
    | non => cases (show some _ = some e from h2); exact says_no
    | bl y => cases (show some _ = some e from h2); exact says_tri (beqB_eq x y)
    | int j => cases (show some _ = some e from h2); exact says_tri (by rw [beqI_eq, b2i_eq]; cases x <;> simp [PyData.eqv, Bool.beq_eq_decide_eq])
    | str n => obtain ⟨rfl, _⟩ := uD_str h2; exact says_no
    | tup q t => obtain ⟨_, rfl, _⟩ := uD_tup h2; exact says_dno
    | vl q t => obtain ⟨_, rfl, _⟩ := uD_vl h2; exact says_dno
    | _ => exact says_unk
  | int i =>
    intro b
    refine ⟨fun d e h1 h2 => ?_, fun _ _ h => (nomatch h)⟩
    cases (show some (PyData.int i) = some d from h1)
    cases b with
    | non => cases (show some _ = some e from h2); exact says_no
    | bl y => cases (show some _ = some e from h2); exact says_tri (by rw [beqI_eq, b2i_eq]; cases y <;> simp [PyData.eqv, Bool.beq_eq_decide_eq])
    | int j => cases (show some _ = some e from h2); exact says_tri (by rw [beqI_eq]; simp [PyData.eqv, Bool.beq_eq_decide_eq])
    | str n => obtain ⟨rfl, _⟩ := uD_str h2; exact says_no
    | tup q t => obtain ⟨_, rfl, _⟩ := uD_tup h2; exact says_dno
    | vl q t => obtain ⟨_, rfl, _⟩ := uD_vl h2; exact says_dno
    | _ => exact says_unk
  | str n =>
    intro b
    refine ⟨fun d e h1 h2 => ?_, fun _ _ h => (nomatch h)⟩
    obtain ⟨rfl, c1, _⟩ := uD_str h1
    cases b with
    | non => cases (show some _ = some e from h2); exact says_no
    | bl y => cases (show some _ = some e from h2); exact says_no
    | int j => cases (show some _ = some e from h2); exact says_no
    | str m => obtain ⟨rfl, c2, _⟩ := uD_str h2; exact says_str c1 c2
    | tup q t => obtain ⟨_, rfl, _⟩ := uD_tup h2; exact says_dno
    | vl q t => obtain ⟨_, rfl, _⟩ := uD_vl h2; exact says_dno
    | _ => exact says_unk
  | nil =>
    intro b
    refine ⟨fun _ _ h => (nomatch h), fun ds es h1 h2 => ?_⟩
    cases (show some ([] : List PyData) = some ds from h1)
    cases b with
    | nil => cases (show some ([] : List PyData) = some es from h2); exact says_yes
    | cons c d => obtain ⟨_, _, rfl, _, _⟩ := uL_cons h2; exact says_no
    | _ => exact nomatch h2
  | cons a t iha iht =>
    intro b
    refine ⟨fun _ _ h => (nomatch h), fun ds es h1 h2 => ?_⟩
    obtain ⟨x, xs, rfl, e1, e2⟩ := uL_cons h1
    cases b with
    | nil => cases (show some ([] : List PyData) = some es from h2); exact says_no
    | cons c d =>
      obtain ⟨y, ys, rfl, f1, f2⟩ := uL_cons h2
      have s1 := (iha c).1 x y e1 f1
      have s2 := (iht d).2 xs ys e2 f2
      show Says (Tri.rec .no (eqU t d) .unk (eqU a c) : Tri) (PyData.eqvAll (x :: xs) (y :: ys))
      rw [PyData.eqvAll]
      cases hq : eqU a c with
      | no => rw [s1.2 hq]; exact says_no
      | yes => rw [s1.1 hq, Bool.true_and]; exact s2
      | unk => exact says_unk
    | _ => exact nomatch h2
  | tup p s ih =>
    intro b
    refine ⟨fun d e h1 h2 => ?_, fun _ _ h => (nomatch h)⟩
    obtain ⟨ds, rfl, e1⟩ := uD_tup h1
    cases p with
    | zero => exact says_unk
    | succ p =>
      cases b with
      | non => cases (show some _ = some e from h2); exact says_no
      | bl y => cases (show some _ = some e from h2); exact says_no
      | int j => cases (show some _ = some e from h2); exact says_no
      | str m => obtain ⟨rfl, c2, _⟩ := uD_str h2; exact says_no
      | tup q t =>
        obtain ⟨es, rfl, e2⟩ := uD_tup h2
        cases q with
        | zero => exact says_unk
        | succ q => rw [PyData.eqv]; exact (ih t).2 ds es e1 e2
      | vl q t => obtain ⟨_, rfl, _⟩ := uD_vl h2; rw [PyData.eqv]; exact says_dno
      | _ => exact says_unk
  | vl p s ih =>
    intro b
    refine ⟨fun d e h1 h2 => ?_, fun _ _ h => (nomatch h)⟩
    obtain ⟨ds, rfl, e1⟩ := uD_vl h1
    cases p with
    | zero => exact says_unk
    | succ p =>
      cases b with
      | non => cases (show some _ = some e from h2); exact says_no
      | bl y => cases (show some _ = some e from h2); exact says_no
      | int j => cases (show some _ = some e from h2); exact says_no
      | str m => obtain ⟨rfl, c2, _⟩ := uD_str h2; exact says_no
      | vl q t =>
        obtain ⟨es, rfl, e2⟩ := uD_vl h2
        cases q with
        | zero => exact says_unk
        | succ q => rw [PyData.eqv]; exact (ih t).2 ds es e1 e2
      | tup q t => obtain ⟨_, rfl, _⟩ := uD_tup h2; rw [PyData.eqv]; exact says_dno
      | _ => exact says_unk
  | vd _ _ => exact fun b => ⟨fun _ _ h => (nomatch h), fun _ _ h => (nomatch h)⟩
  | ref _ => exact fun b => ⟨fun _ _ h => (nomatch h), fun _ _ h => (nomatch h)⟩
  | gf _ => exact fun b => ⟨fun _ _ h => (nomatch h), fun _ _ h => (nomatch h)⟩
  | clo _ _ _ => exact fun b => ⟨fun _ _ h => (nomatch h), fun _ _ h => (nomatch h)⟩
end
end VI
namespace VI
open PySem PySem.Spec PyProof.Rows L2
noncomputable section
/-! ### truth -/
theorem charsG_length : ∀ (f n : Nat) (acc : List Nat), (charsG f n acc).length ≤ f + acc.length
  | 0, n, acc => by rw [charsG]; omega
  | f + 1, n, acc => by
    rw [charsG]
    by_cases h : n = 0
    · rw [if_pos h]; omega
    · rw [if_neg h]
      have := charsG_length f ((n - 1) / vB) (((n - 1) % vB) :: acc)
      rw [List.length_cons] at this
      omega
theorem dec_length (n : Nat) : (dec n).length ≤ 1000000 := by
  have h := charsG_length 1000000 n []
  show (charsL n).toArray.size ≤ 1000000
  rw [List.size_toArray]
  exact h
theorem StrIs.line {n : Nat} {x : Str} (h : StrIs n x) : x.length ≤ sizeLine := by
  rw [h.1, sizeLine_eq]
  have := dec_length n
  omega
theorem charsL_zero : charsL 0 = [] := by
  show charsG (999999 + 1) 0 [] = []
  rw [charsG, if_pos rfl]
theorem StrIs.empty {n : Nat} {x : Str} (h : StrIs n x) : n = 0 ↔ x.length = 0 := by
  obtain ⟨rfl, h2, _⟩ := h
  have e : (dec n).length = (charsL n).length := by show (charsL n).toArray.size = _; simp
  rw [e]
  constructor
  · rintro rfl; rw [charsL_zero]; rfl
  · intro z
    have : charsL n = [] := List.length_eq_zero_iff.mp z
    rw [this] at h2
    exact h2.symm
section
variable {C : Ct} {r : Rf} {H : Hp} {K : PySem.W.Frag} {h : VH}
theorem true_eq {α : Type} (u : U) (h : VH) (z f t : α) : u.true? h z f t = match truth u h with | some true => t | some false => f | none => z := by
  cases u with
  | bl b => cases b <;> rfl
  | int i =>
    show (Bool.rec t f (beqI i (.ofNat 0)) : α) = match (Bool.rec (some true) (some false) (beqI i (.ofNat 0)) : Option Bool) with | some true => t | some false => f | none => z
    cases beqI i (.ofNat 0) <;> rfl
  | str n =>
    show (Bool.rec t f (Nat.beq n 0) : α) = match (Bool.rec (some true) (some false) (Nat.beq n 0) : Option Bool) with | some true => t | some false => f | none => z
    cases Nat.beq n 0 <;> rfl
  | tup d s => cases s <;> rfl
  | vl d s => cases s <;> rfl
  | ref k =>
    show h.at k z (fun o => VO.rec (fun s => s.cs f (fun _ _ => t)) (fun _ => z) (fun _ _ => z) o) = match h.at k none (fun o => VO.rec (fun s => s.cs (some false) (fun _ _ => some true)) (fun _ => none) (fun _ _ => none) o) with | some true => t | some false => f | none => z
    rw [VH.at_eq, VH.at_eq]
    cases h.find? k with
    | none => rfl
    | some o =>
      cases o with
      | lst s => cases s <;> rfl
      | dct s => rfl
      | ins c s => rfl
  | _ => rfl
theorem cs_nil {s : U} {xs : List V} (q : RpL r H s xs) : (s.cs (some false) (fun _ _ => some true) : Option Bool) = some (!xs.isEmpty) := by
  cases s with
  | nil => cases (show xs = [] from q); rfl
  | cons a b => obtain ⟨v, vs, rfl, _⟩ := (show ∃ x ys, xs = x :: ys ∧ _ from q); rfl
  | _ => exact False.elim q
theorem tru_of (x : RH C r H h) {u : U} {v : V} {b : Bool} (hr : Rp r H u v) (e : truth u h = some b) : TruV K v H b := by
  cases u with
  | non => cases (show v = .non from hr); cases (show some false = some b from e); exact rfl
  | bl c => cases (show v = .bl c from hr); cases c <;> (cases (show some _ = some b from e); exact rfl)
  | int i =>
    cases (show v = .int i from hr)
    have e : (Bool.rec (some true) (some false) (beqI i (.ofNat 0)) : Option Bool) = some b := e
    show b = (i != 0)
    rw [beqI_eq] at e
    by_cases hi : i = 0
    · subst hi
      have : decide ((0 : Int) = Int.ofNat 0) = true := by decide
      rw [this] at e; cases e; rfl
    · have z : decide (i = Int.ofNat 0) = false := decide_eq_false hi
      rw [z] at e; cases e
      symm; exact bne_iff_ne.mpr hi
  | str n =>
    obtain ⟨y, rfl, hy⟩ := (show ∃ x, v = .str x ∧ StrIs n x from hr)
    refine ⟨hy.line, ?_⟩
    have e : (Bool.rec (some true) (some false) (Nat.beq n 0) : Option Bool) = some b := e
    have z := hy.empty
    cases hb : Nat.beq n 0 with
    | true =>
      rw [hb] at e; cases e
      rw [z.mp (nat_beq_iff.mp hb)]; rfl
    | false =>
      rw [hb] at e; cases e
      have : y.length ≠ 0 := fun q => nat_beq_false hb (z.mpr q)
      symm
      rw [bne_iff_ne]
      omega
  | tup d s =>
    obtain ⟨a, o, xs, rfl, h1, _, h2, _⟩ := (show ∃ a o xs, v = .ref a ∧ H a = some (.frz o (.tup xs)) ∧ o.dict = none ∧ RpL r H s xs ∧ Dep d s from hr)
    refine .inr (.inl ⟨xs, SqT.ofF h1, ?_⟩)
    rw [show truth (.tup d s) h = _ from cs_nil h2] at e
    cases e; rfl
  | vl d s =>
    obtain ⟨a, o, xs, rfl, h1, h2, _⟩ := (show ∃ a o xs, v = .ref a ∧ H a = some (.frz o (.lst xs)) ∧ RpL r H s xs ∧ Dep d s from hr)
    refine .inl ⟨xs, .inl (.inr ⟨o, h1⟩), ?_⟩
    rw [show truth (.vl d s) h = _ from cs_nil h2] at e
    cases e; rfl
  | ref k =>
    obtain ⟨a, rfl, ha⟩ := (show ∃ a, v = .ref a ∧ r.ρ k = some a from hr)
    have e : h.at k none (fun o => VO.rec (fun s => s.cs (some false) (fun _ _ => some true)) (fun _ => none) (fun _ _ => none) o) = some b := e
    rw [VH.at_eq] at e
    cases hk : h.find? k with
    | none => rw [hk] at e; cases e
    | some o =>
      rw [hk] at e
      obtain ⟨a', e1, q⟩ := x.obj k o hk
      rw [ha] at e1; cases e1
      cases o with
      | lst s =>
        obtain ⟨xs, h1, h2⟩ := q
        have e : (s.cs (some false) (fun _ _ => some true) : Option Bool) = some b := e
        rw [cs_nil h2] at e
        cases e
        exact .inl ⟨xs, SqL.of h1, rfl⟩
      | dct s => cases (show (none : Option Bool) = some b from e)
      | ins c fs => cases (show (none : Option Bool) = some b from e)
  | nil => exact False.elim hr
  | cons a b => exact False.elim hr
  | vd s => cases (show (none : Option Bool) = some b from e)
  | gf f => cases (show (none : Option Bool) = some b from e)
  | clo f c => exact False.elim hr
end
/-! ### tests -/
/-- an expression as a test -/
def SB (C : Ct) (X : Cx) (e : Expr) (f : Sem) : Prop := ∀ c, PT X e (tST C (f c))
def SW (C : Ct) (X : Cx) (e : Expr) (f : Sem) : Prop := ∀ c, PW X e (tST C (f c))
theorem _root_.L2.PT.weak {X : Cx} {e : Expr} {t t' : TT} (h : PT X e t) (w : ∀ σ H Q, t' σ H Q → t σ H Q) : PT X e t' := ⟨fun pins s σ H Q I q => h.run pins s σ H Q I (w σ H Q q)⟩
theorem _root_.L2.PW.weak {X : Cx} {e : Expr} {t t' : TT} (h : PW X e t) (w : ∀ σ H Q, t' σ H Q → t σ H Q) : PW X e t' := ⟨fun wh pins s σ H Q I q => h.run wh pins s σ H Q I (w σ H Q q)⟩
section
variable {C : Ct} {X : Cx} {k : Nat} {p : Prog} {call : Nat → U → VH → VR} {a b c e : Expr} {es rest : List Expr} {ea eb ec : VE} {pos : Pos}
/-- any expression as a test -/
theorem b_val {f : Sem} (ha : SE C X a f) (he : ∀ whole, isTrue a X.env whole = (do let v ← whole; standAt a.pos; holding [v] (truthy v)) := by intro _; rfl) : SB C X a f := fun c => by
  refine (pt_truth (ha c) he).weak fun σ H Q ⟨r, h, s, u, h', b, rh, rs, e, t, q⟩ => ?_
  exact ⟨r, h, s, u, h', rh, rs, e, fun r1 H1 v l k rh1 p1 => ⟨b, tru_of rh1 p1 t, q r1 H1 l k rh1⟩⟩
theorem b_w {f : Sem} (h : SW C X a f) : SB C X a f := fun c => (h c).pt
theorem true_rb {b : Bool} {h : VH} : truth (.bl b) h = some b := by cases b <;> rfl
theorem w_and1 {f : Sem} (h : SB C X a f) : SW C X (.BoolOp .And [a] pos) f := fun c => pw_and1 (h c)
theorem w_or1 {f : Sem} (h : SB C X a f) : SW C X (.BoolOp .Or [a] pos) f := fun c => pw_or1 (h c)
theorem w_and (ha : SB C X a (ev p call ea)) (hb : SW C X (.BoolOp .And (b :: rest) pos) (ev p call eb)) : SW C X (.BoolOp .And (a :: b :: rest) pos) (ev p call (.and ea eb)) := fun c => by
  refine (pw_and (ha c) (hb c)).weak fun σ H Q ⟨r, h, s, u, h', t, rh, rs, e, et, q⟩ => ?_
  obtain ⟨x, h1, e1, e⟩ := bind_one e
  rw [true_eq] at e
  cases hx : truth x h1 with
  | none => rw [hx] at e; cases e
  | some d =>
    rw [hx] at e
    refine ⟨r, h, s, x, h1, d, rh, rs, e1, hx, fun r1 H1 l1 k1 rh1 => ?_⟩
    cases d with
    | true =>
      rw [if_pos rfl]
      exact ⟨r1, h1, s, u, h', t, rh1, rs.mono l1 k1, e, et, fun r2 H2 l2 k2 rh2 => q r2 H2 (l1.trans l2) (k1.trans k2) rh2⟩
    | false =>
      rw [if_neg (by decide)]
      cases (show VR.one x h1 = .one u h' from e)
      rw [hx] at et
      cases et
      exact q r1 H1 l1 k1 rh1
theorem w_or (ha : SB C X a (ev p call ea)) (hb : SW C X (.BoolOp .Or (b :: rest) pos) (ev p call eb)) : SW C X (.BoolOp .Or (a :: b :: rest) pos) (ev p call (.or ea eb)) := fun c => by
  refine (pw_or (ha c) (hb c)).weak fun σ H Q ⟨r, h, s, u, h', t, rh, rs, e, et, q⟩ => ?_
  obtain ⟨x, h1, e1, e⟩ := bind_one e
  rw [true_eq] at e
  cases hx : truth x h1 with
  | none => rw [hx] at e; cases e
  | some d =>
    rw [hx] at e
    refine ⟨r, h, s, x, h1, d, rh, rs, e1, hx, fun r1 H1 l1 k1 rh1 => ?_⟩
    cases d with
    | false =>
      rw [if_neg (by decide)]
      exact ⟨r1, h1, s, u, h', t, rh1, rs.mono l1 k1, e, et, fun r2 H2 l2 k2 rh2 => q r2 H2 (l1.trans l2) (k1.trans k2) rh2⟩
    | true =>
      rw [if_pos rfl]
      cases (show VR.one x h1 = .one u h' from e)
      rw [hx] at et
      cases et
      exact q r1 H1 l1 k1 rh1
theorem b_not (ha : SB C X a (ev p call ea)) : SB C X (.UnaryOp .Not a pos) (ev p call (.not ea)) := fun c => by
  refine (pt_not (ha c)).weak fun σ H Q ⟨r, h, s, u, h', t, rh, rs, e, et, q⟩ => ?_
  obtain ⟨x, h1, e1, e⟩ := bind_one e
  rw [true_eq] at e
  cases hx : truth x h1 with
  | none => rw [hx] at e; cases e
  | some d =>
    rw [hx] at e
    refine ⟨r, h, s, x, h1, d, rh, rs, e1, hx, fun r1 H1 l1 k1 rh1 => ?_⟩
    cases d with
    | false => cases (show rb true h1 = .one u h' from e); cases (show some true = some t from et); exact q r1 H1 l1 k1 rh1
    | true => cases (show rb false h1 = .one u h' from e); cases (show some false = some t from et); exact q r1 H1 l1 k1 rh1
/-! ### .. as values -/
theorem r_one {op : PySem.BoolOp} {f : Sem} (h : SE C X a f) : SE C X (.BoolOp op [a] pos) f := fun c => pe_one (h c)
theorem r_and (ha : SE C X a (ev p call ea)) (hb : SE C X (.BoolOp .And (b :: rest) pos) (ev p call eb)) : SE C X (.BoolOp .And (a :: b :: rest) pos) (ev p call (.and ea eb)) := fun c => by
  refine (pe_andT (ha c) (hb c)).weak fun σ H Q ⟨r, h, s, u, h', rh, rs, e, q⟩ => ?_
  obtain ⟨x, h1, e1, e⟩ := bind_one e
  rw [true_eq] at e
  cases hx : truth x h1 with
  | none => rw [hx] at e; cases e
  | some d =>
    rw [hx] at e
    refine ⟨r, h, s, x, h1, rh, rs, e1, fun r1 H1 v l1 k1 rh1 p1 => ⟨d, tru_of rh1 p1 hx, ?_⟩⟩
    cases d with
    | true =>
      rw [if_pos rfl]
      exact ⟨r1, h1, s, u, h', rh1, rs.mono l1 k1, e, fun r2 H2 v2 l2 k2 rh2 p2 => q r2 H2 v2 (l1.trans l2) (k1.trans k2) rh2 p2⟩
    | false =>
      rw [if_neg (by decide)]
      cases (show VR.one x h1 = .one u h' from e)
      exact q r1 H1 v l1 k1 rh1 p1
theorem r_or (ha : SE C X a (ev p call ea)) (hb : SE C X (.BoolOp .Or (b :: rest) pos) (ev p call eb)) : SE C X (.BoolOp .Or (a :: b :: rest) pos) (ev p call (.or ea eb)) := fun c => by
  refine (pe_orT (ha c) (hb c)).weak fun σ H Q ⟨r, h, s, u, h', rh, rs, e, q⟩ => ?_
  obtain ⟨x, h1, e1, e⟩ := bind_one e
  rw [true_eq] at e
  cases hx : truth x h1 with
  | none => rw [hx] at e; cases e
  | some d =>
    rw [hx] at e
    refine ⟨r, h, s, x, h1, rh, rs, e1, fun r1 H1 v l1 k1 rh1 p1 => ⟨d, tru_of rh1 p1 hx, ?_⟩⟩
    cases d with
    | false =>
      rw [if_neg (by decide)]
      exact ⟨r1, h1, s, u, h', rh1, rs.mono l1 k1, e, fun r2 H2 v2 l2 k2 rh2 p2 => q r2 H2 v2 (l1.trans l2) (k1.trans k2) rh2 p2⟩
    | true =>
      rw [if_pos rfl]
      cases (show VR.one x h1 = .one u h' from e)
      exact q r1 H1 v l1 k1 rh1 p1
theorem r_not (ha : SE C X a (ev p call ea)) : SE C X (.UnaryOp .Not a pos) (ev p call (.not ea)) := fun c => by
  refine (pe_notT (ha c)).weak fun σ H Q ⟨r, h, s, u, h', rh, rs, e, q⟩ => ?_
  obtain ⟨x, h1, e1, e⟩ := bind_one e
  rw [true_eq] at e
  cases hx : truth x h1 with
  | none => rw [hx] at e; cases e
  | some d =>
    rw [hx] at e
    refine ⟨r, h, s, x, h1, rh, rs, e1, fun r1 H1 v l1 k1 rh1 p1 => ⟨d, tru_of rh1 p1 hx, ?_⟩⟩
    cases d with
    | false => cases (show rb true h1 = .one u h' from e); exact q r1 H1 _ l1 k1 rh1 rfl
    | true => cases (show rb false h1 = .one u h' from e); exact q r1 H1 _ l1 k1 rh1 rfl
theorem r_ife (hc : SB C X c (ev p call ec)) (ha : SE C X a (ev p call ea)) (hb : SE C X b (ev p call eb)) : SE C X (.IfExp c a b pos) (ev p call (.ife ec ea eb)) := fun cc => by
  refine (pe_ifExp (hc cc) (ha cc) (hb cc)).weak fun σ H Q ⟨r, h, s, u, h', rh, rs, e, q⟩ => ?_
  obtain ⟨x, h1, e1, e⟩ := bind_one e
  rw [true_eq] at e
  cases hx : truth x h1 with
  | none => rw [hx] at e; cases e
  | some d =>
    rw [hx] at e
    refine ⟨r, h, s, x, h1, d, rh, rs, e1, hx, fun r1 H1 l1 k1 rh1 => ?_⟩
    cases d with
    | true =>
      rw [if_pos rfl]
      exact ⟨r1, h1, s, u, h', rh1, rs.mono l1 k1, e, fun r2 H2 v2 l2 k2 rh2 p2 => q r2 H2 v2 (l1.trans l2) (k1.trans k2) rh2 p2⟩
    | false =>
      rw [if_neg (by decide)]
      exact ⟨r1, h1, s, u, h', rh1, rs.mono l1 k1, e, fun r2 H2 v2 l2 k2 rh2 p2 => q r2 H2 v2 (l1.trans l2) (k1.trans k2) rh2 p2⟩
/-! ### tuples and lists -/
/-- a bound of how many values -/
def bnd : VE → Nat
  | .nil => 0
  | .cons _ b => bnd b + 1
  | .lim _ => 100000
  | _ => 1000000000
theorem few_one {α : Type} {s : U} {f z w : α} (e : few s f z = w) (h : z ≠ w) : f = w ∧ s.len ≤ 100000 := by
  have e : (Bool.rec z f (Nat.ble s.len 100000) : α) = w := e
  cases hb : Nat.ble s.len 100000 with
  | false => rw [hb] at e; exact absurd e h
  | true => rw [hb] at e; exact ⟨e, Nat.ble_eq.mp hb⟩
theorem bnd_ok : ∀ {el : VE} {c : U} {s : VS} {h h' : VH} {u : U}, ev p call el c s h = .one u h' → bnd el < 1000000000 → u.len ≤ bnd el
  | .nil, c, s, h, h', u, e, _ => by cases (show VR.one .nil h = .one u h' from e); exact Nat.le_refl _
  | .cons a b, c, s, h, h', u, e, hb => by
    obtain ⟨x, h1, e1, e⟩ := bind_one e
    obtain ⟨y, h2, e2, e⟩ := bind_one e
    cases (show VR.one (.cons x y) h2 = .one u h' from e)
    have hb : bnd b + 1 < 1000000000 := hb
    have := bnd_ok (el := b) e2 (by omega)
    show y.len + 1 ≤ bnd b + 1
    omega
  | .lim l, c, s, h, h', u, e, _ => by
    obtain ⟨x, h1, e1, e⟩ := bind_one e
    obtain ⟨e, z⟩ := few_one e (by intro q; cases q)
    cases (show VR.one x h1 = .one u h' from e)
    exact z
  | .star _ _, _, _, _, _, _, _, hb => absurd hb (Nat.lt_irrefl _)
  | .var _, _, _, _, _, _, _, hb => absurd hb (Nat.lt_irrefl _)
  | .cst _, _, _, _, _, _, _, hb => absurd hb (Nat.lt_irrefl _)
  | .tup _, _, _, _, _, _, _, hb => absurd hb (Nat.lt_irrefl _)
  | .lst _, _, _, _, _, _, _, hb => absurd hb (Nat.lt_irrefl _)
  | .vls _, _, _, _, _, _, _, hb => absurd hb (Nat.lt_irrefl _)
  | .dsp _, _, _, _, _, _, _, hb => absurd hb (Nat.lt_irrefl _)
  | .vds _, _, _, _, _, _, _, hb => absurd hb (Nat.lt_irrefl _)
  | .dkv _ _ _, _, _, _, _, _, _, hb => absurd hb (Nat.lt_irrefl _)
  | .dst _ _, _, _, _, _, _, _, hb => absurd hb (Nat.lt_irrefl _)
  | .dnil, _, _, _, _, _, _, hb => absurd hb (Nat.lt_irrefl _)
  | .bin _ _ _, _, _, _, _, _, _, hb => absurd hb (Nat.lt_irrefl _)
  | .cmp _ _ _, _, _, _, _, _, _, hb => absurd hb (Nat.lt_irrefl _)
  | .cmpI _ _ _, _, _, _, _, _, _, hb => absurd hb (Nat.lt_irrefl _)
  | .chain _ _ _ _ _, _, _, _, _, _, _, hb => absurd hb (Nat.lt_irrefl _)
  | .and _ _, _, _, _, _, _, _, hb => absurd hb (Nat.lt_irrefl _)
  | .or _ _, _, _, _, _, _, _, hb => absurd hb (Nat.lt_irrefl _)
  | .not _, _, _, _, _, _, _, hb => absurd hb (Nat.lt_irrefl _)
  | .ife _ _ _, _, _, _, _, _, _, hb => absurd hb (Nat.lt_irrefl _)
  | .fld _ _, _, _, _, _, _, _, hb => absurd hb (Nat.lt_irrefl _)
  | .idx _ _, _, _, _, _, _, _, hb => absurd hb (Nat.lt_irrefl _)
  | .slc _ _ _, _, _, _, _, _, _, hb => absurd hb (Nat.lt_irrefl _)
  | .nop, _, _, _, _, _, _, hb => absurd hb (Nat.lt_irrefl _)
  | .call _ _, _, _, _, _, _, _, hb => absurd hb (Nat.lt_irrefl _)
  | .meth _ _ _, _, _, _, _, _, _, hb => absurd hb (Nat.lt_irrefl _)
  | .mk _ _, _, _, _, _, _, _, hb => absurd hb (Nat.lt_irrefl _)
  | .callv _ _, _, _, _, _, _, _, hb => absurd hb (Nat.lt_irrefl _)
  | .bm _ _ _, _, _, _, _, _, _, hb => absurd hb (Nat.lt_irrefl _)
  | .bc _ _, _, _, _, _, _, _, hb => absurd hb (Nat.lt_irrefl _)
  | .isi _ _, _, _, _, _, _, _, hb => absurd hb (Nat.lt_irrefl _)
  | .comp _, _, _, _, _, _, _, hb => absurd hb (Nat.lt_irrefl _)
  | .compH _, _, _, _, _, _, _, hb => absurd hb (Nat.lt_irrefl _)
  | .dcomp _, _, _, _, _, _, _, hb => absurd hb (Nat.lt_irrefl _)
  | .dcompH _, _, _, _, _, _, _, hb => absurd hb (Nat.lt_irrefl _)
  | .cfor _ _ _, _, _, _, _, _, _, hb => absurd hb (Nat.lt_irrefl _)
  | .cif _ _, _, _, _, _, _, _, hb => absurd hb (Nat.lt_irrefl _)
  | .cend _, _, _, _, _, _, _, hb => absurd hb (Nat.lt_irrefl _)
  | .cend2 _ _, _, _, _, _, _, _, hb => absurd hb (Nat.lt_irrefl _)
  | .wip _ _, _, _, _, _, _, _, hb => absurd hb (Nat.lt_irrefl _)
  | .enum _, _, _, _, _, _, _, hb => absurd hb (Nat.lt_irrefl _)
  | .zip _ _, _, _, _, _, _, _, hb => absurd hb (Nat.lt_irrefl _)
  | .rng _ _, _, _, _, _, _, _, hb => absurd hb (Nat.lt_irrefl _)
  | .items _, _, _, _, _, _, _, hb => absurd hb (Nat.lt_irrefl _)
  | .vals _, _, _, _, _, _, _, hb => absurd hb (Nat.lt_irrefl _)
  | .lam _ _, _, _, _, _, _, _, hb => absurd hb (Nat.lt_irrefl _)
theorem line_of {n : Nat} (h : n ≤ 1000000) : n ≤ sizeLine := by rw [sizeLine_eq]; omega
theorem l_lim (hl : SL C X es (ev p call ea)) : SL C X es (ev p call (.lim ea)) := fun c => by
  refine (hl c).weak fun σ H Q ⟨r, h, s, u, h', rh, rs, e, q⟩ => ?_
  obtain ⟨x, h1, e1, e⟩ := bind_one e
  obtain ⟨e, z⟩ := few_one e (by intro q; cases q)
  cases (show VR.one x h1 = .one u h' from e)
  exact ⟨r, h, s, _, _, rh, rs, e1, q⟩
theorem l_star {q : Pos} (ha : SE C X e (ev p call ea)) (hb : SL C X es (ev p call eb)) (hs : starEach (.Starred e q :: es) X.env = (true, eval e X.env) :: starEach es X.env := by rfl) : SL C X (.Starred e q :: es) (ev p call (.star ea eb)) := fun c => by
  refine (StX.pa_star (ha c) (hb c) hs).weak fun σ H Q ⟨r, h, s, u, h', rh, rs, e, qq⟩ => ?_
  obtain ⟨x, h1, e1, e⟩ := bind_one e
  refine ⟨r, h, s, x, h1, rh, rs, e1, fun r1 H1 v1 l1 k1 rh1 p1 => ?_⟩
  have fin : ∀ (sp : U) (a : Addr) (xs : List V), v1 = .ref a → (SqT X.K H1 a xs ∨ SqL X.K H1 a xs) → RpL r1 H1 sp xs → VR.bind (ev p call eb c s h1) (fun y h => VR.one (sp.app y) h) = .one u h' →
      ∃ p_1 xs, v1 = V.ref p_1 ∧ (SqT X.K H1 p_1 xs ∨ SqL X.K H1 p_1 xs) ∧ tSL C (ev p call eb c) σ H1 fun ys H2 => Q (xs ++ ys) H2 := fun sp a xs ee hx hr e => by
    obtain ⟨y, h2, e2, e⟩ := bind_one e
    cases (show VR.one (sp.app y) h2 = .one u h' from e)
    refine ⟨a, xs, ee, hx, r1, h1, s, y, _, rh1, rs.mono l1 k1, e2, fun r2 H2 vs l2 k2 rh2 p2 => ?_⟩
    exact qq r2 H2 (xs ++ vs) (l1.trans l2) (k1.trans k2) rh2 ((hr.mono l2 k2).app p2)
  cases x with
  | tup d sp =>
    obtain ⟨a, o, xs, ee, g1, _, g2, _⟩ := (show ∃ a o xs, v1 = .ref a ∧ H1 a = some (.frz o (.tup xs)) ∧ o.dict = none ∧ RpL r1 H1 sp xs ∧ Dep d sp from p1)
    exact fin sp a xs ee (.inl (SqT.ofF g1)) g2 e
  | vl d sp =>
    obtain ⟨a, o, xs, ee, g1, g2, _⟩ := (show ∃ a o xs, v1 = .ref a ∧ H1 a = some (.frz o (.lst xs)) ∧ RpL r1 H1 sp xs ∧ Dep d sp from p1)
    exact fin sp a xs ee (.inr (.inl (.inr ⟨o, g1⟩))) g2 e
  | ref j =>
    obtain ⟨a, ee, ha⟩ := (show ∃ a, v1 = .ref a ∧ r1.ρ j = some a from p1)
    have e : h1.at j (VR.bad 101) (fun o => VO.rec (fun sp => VR.bind (ev p call eb c s h1) (fun y h => VR.one (sp.app y) h)) (fun _ => .bad 101) (fun _ _ => .bad 101) o) = .one u h' := e
    rw [VH.at_eq] at e
    cases hk : h1.find? j with
    | none => rw [hk] at e; cases e
    | some o =>
      rw [hk] at e
      obtain ⟨a', e2, z⟩ := rh1.obj j o hk
      rw [ha] at e2; cases e2
      cases o with
      | lst sp =>
        obtain ⟨xs, g1, g2⟩ := z
        exact fin sp a xs ee (.inr (SqL.of g1)) g2 e
      | dct sp => cases e
      | ins cc fs => cases e
  | nil => exact False.elim p1
  | cons a b => exact False.elim p1
  | vd sp => cases e
  | clo f cc => exact False.elim p1
  | _ => cases e
theorem r_tup {es : List Expr} {x1 : Nat} (hl : SL C X es (ev p call ea)) (hz : bnd ea ≤ 1000000 := by decide) : SE C X (.Tuple es x1 pos) (ev p call (.tup ea)) := fun c => by
  refine (pe_tupF (hl c)).weak fun σ H Q ⟨r, h, s, u, h', rh, rs, e, q⟩ => ?_
  obtain ⟨sp, h1, e1, e⟩ := bind_one e
  cases (show VR.one (mkT sp) h1 = .one u h' from e)
  refine ⟨r, h, s, sp, _, rh, rs, e1, fun r1 H1 vs l1 k1 rh1 p1 => ⟨?_, fun a o ha ho => ?_⟩⟩
  · rw [p1.length]
    exact line_of (Nat.le_trans (bnd_ok e1 (by omega)) hz)
  · exact q r1 _ _ l1 (k1.trans (Kp.new ha)) (rh1.more (new_keeps ha)) (rp_mkT (p1.mono (Rf.Le.refl r1) (Kp.new ha)) upd_same ho)
theorem r_vls {es : List Expr} (hl : SL C X es (ev p call ea)) (hz : bnd ea ≤ 1000000 := by decide) : SE C X (.List es pos) (ev p call (.vls ea)) := fun c => by
  refine (pe_lst (hl c)).frz.weak fun σ H Q ⟨r, h, s, u, h', rh, rs, e, q⟩ => ?_
  obtain ⟨sp, h1, e1, e⟩ := bind_one e
  cases (show VR.one (mkL sp) h1 = .one u h' from e)
  refine ⟨r, h, s, sp, _, rh, rs, e1, fun r1 H1 vs l1 k1 rh1 p1 => ⟨?_, fun a ha => ⟨a, vs, rfl, upd_same, fun o => ?_⟩⟩⟩
  · rw [p1.length]
    exact line_of (Nat.le_trans (bnd_ok e1 (by omega)) hz)
  · rw [upd_upd]
    exact q r1 _ _ l1 (k1.trans (Kp.new ha)) (rh1.more (new_keeps ha)) (rp_mkL (p1.mono (Rf.Le.refl r1) (Kp.new ha)) upd_same)
end
end
end VI
namespace VI
open PySem PySem.Spec PyProof.Rows L2
noncomputable section
section
variable {C : Ct} {X : Cx} {k : Nat} {p : Prog} {call : Nat → U → VH → VR} {a b c e : Expr} {es rest : List Expr} {ea eb ec : VE} {pos : Pos}
/-! ### two values -/
/-- what follows, as a reading asks it -/
abbrev Fo (C : Ct) (r : Rf) (H : Hp) (u : U) (h' : VH) (Q : VK) : Prop := ∀ r' H' v, r.Le r' → Kp r H r' H' → RH C r' H' h' → Rp r' H' u v → Q v H'
theorem Fo.here {r : Rf} {H : Hp} {u : U} {h : VH} {Q : VK} {v : V} (q : Fo C r H u h Q) (rh : RH C r H h) (hv : Rp r H u v) : Q v H := q r H v (Rf.Le.refl r) (Kp.refl H) rh hv
theorem Fo.newTup {r : Rf} {H : Hp} {s : U} {h : VH} {Q : VK} {xs : List V} {a : Addr} {o : Obj} (q : Fo C r H (mkT s) h Q) (rh : RH C r H h) (hs : RpL r H s xs) (ha : H a = none) (ho : o.dict = none) : Q (.ref a) (upd H a (.frz o (.tup xs))) :=
  q r _ _ (Rf.Le.refl r) (Kp.new ha) (rh.more (new_keeps ha)) (rp_mkT (hs.mono (Rf.Le.refl r) (Kp.new ha)) upd_same ho)
theorem Fo.newLst {r : Rf} {H : Hp} {s : U} {h : VH} {Q : VK} {xs : List V} {a : Addr} {o : Obj} (q : Fo C r H (mkL s) h Q) (rh : RH C r H h) (hs : RpL r H s xs) (ha : H a = none) : Q (.ref a) (upd H a (.frz o (.lst xs))) :=
  q r _ _ (Rf.Le.refl r) (Kp.new ha) (rh.more (new_keeps ha)) (rp_mkL (hs.mono (Rf.Le.refl r) (Kp.new ha)) upd_same)
theorem tS2 {fa fb : VS → VH → VR} {g : U → U → VH → VR} {rd : R2}
    (hg : ∀ r H h x y v1 v2 u h' Q, RH C r H h → Rp r H x v1 → Rp r H y v2 → g x y h = .one u h' → Fo C r H u h' Q → rd v1 v2 H Q) (σ : L2.St) (H : Hp) (Q : VK) (t : tS C (fun s h => VR.bind (fa s h) fun x h => VR.bind (fb s h) fun y h => g x y h) σ H Q) : tOp rd (tS C fa) (tS C fb) σ H Q := by
  obtain ⟨r, h, s, u, h', rh, rs, e, q⟩ := t
  obtain ⟨x, h1, e1, e⟩ := bind_one e
  obtain ⟨y, h2, e2, e⟩ := bind_one e
  refine ⟨r, h, s, x, h1, rh, rs, e1, fun r1 H1 v1 l1 k1 rh1 p1 => ⟨r1, h1, s, y, h2, rh1, rs.mono l1 k1, e2, fun r2 H2 v2 l2 k2 rh2 p2 => ?_⟩⟩
  exact hg r2 H2 h2 x y v1 v2 u h' Q rh2 (p1.mono l2 k2) p2 e fun r3 H3 v l3 k3 rh3 p3 => q r3 H3 v ((l1.trans l2).trans l3) ((k1.trans k2).trans k3) rh3 p3
theorem OpR.or {f : Value → Value → PySem.Sem Value} {r1 r2 : R2} (h1 : OpR X f r1) (h2 : OpR X f r2) : OpR X f (fun x y H Q => r1 x y H Q ∨ r2 x y H Q) := by
  intro pins s σ H x y v u Q I rx ry h
  rcases h with h | h
  · exact h1 pins s σ H x y v u Q I rx ry h
  · exact h2 pins s σ H x y v u Q I rx ry h
theorem IxR.or {r1 r2 : R2} (h1 : IxR X r1) (h2 : IxR X r2) : IxR X (fun x y H Q => r1 x y H Q ∨ r2 x y H Q) := by
  intro value slice pins s σ H x y v u Q I rx ry h hs
  rcases h with h | h
  · exact h1 value slice pins s σ H x y v u Q I rx ry h hs
  · exact h2 value slice pins s σ H x y v u Q I rx ry h hs
/-! ### numbers -/
theorem caseInt_one {u : U} {f : Int → VR} {n : Nat} {w : U} {h : VH} (e : u.caseInt (.bad n) f = .one w h) : ∃ i, u = .int i ∧ f i = .one w h := by
  cases u with
  | int i => exact ⟨i, rfl, e⟩
  | _ => cases e
theorem intOp_one {f : Int → Int → Int} {x y u : U} {h h' : VH} (e : intOp f x y h = .one u h') : ∃ i j, x = .int i ∧ y = .int j ∧ u = .int (f i j) ∧ h' = h := by
  obtain ⟨i, rfl, e⟩ := caseInt_one e
  have e : y.caseInt (VR.bad 7) (fun j => VR.one (.int (f i j)) h) = VR.one u h' := e
  obtain ⟨j, rfl, e⟩ := caseInt_one e
  cases e
  exact ⟨i, j, rfl, rfl, rfl, rfl⟩
theorem r_sub (ha : SE C X a (ev p call ea)) (hb : SE C X b (ev p call eb)) : SE C X (.BinOp a .Sub b pos) (ev p call (.bin 1 ea eb)) := fun c => by
  refine (pe_op op_sub (ha c) (hb c)).weak (tS2 (g := fun x y h => intOp Int.sub x y h) fun r H h x y v1 v2 u h' Q rh p1 p2 e q => ?_)
  obtain ⟨i, j, rfl, rfl, rfl, rfl⟩ := intOp_one e
  exact ⟨i, j, p1, p2, q.here rh rfl⟩
/-- list + list, whatever is frozen -/
def rCatV (K : PySem.W.Frag) : R2 := fun x y H Q => ∃ l b xs zs, x = .ref l ∧ y = .ref b ∧ Rd H l (.lst xs) ∧ Rd H b (.lst zs) ∧ xs.length + zs.length ≤ sizeLine ∧ ∀ p o, H p = none → Q (.ref p) (upd H p (.frz o (.lst (xs ++ zs))))
theorem lstR {pins : List (Addr × Obj)} {σ : L2.St} {H : Hp} {s : Shared} {l : Addr} {xs : List V} (I : Inv X pins σ H s) (h : Rd H l (.lst xs)) : ∃ (its : List Value) (n : Nat), xs.length ≤ sizeLine ∧ Vals xs its ∧ s.heap.get? l = some { cls := .type "list", data := .seq its.toArray n } := by
  obtain ⟨z, its, n, r, e⟩ := h.ok I.hok
  exact ⟨its, n, z, r, e⟩
theorem op_catV : OpR X (binaryOp .Add) (rCatV X.K) := by
  intro pins s σ H x y v u Q I rx ry h
  obtain ⟨l, b, xs, zs, rfl, rfl, hH, hB, hz, q⟩ := h
  cases rx
  cases ry
  obtain ⟨its, n, z, r, e⟩ := lstR I hH
  obtain ⟨its2, n2, z2, r2, e2⟩ := lstR I hB
  have hl := r.length
  have hl2 := r2.length
  refine PySem.P.add_list e e2 ?_ (by rw [List.size_toArray, List.size_toArray]; omega)
  have ea : its.toArray ++ its2.toArray = (its ++ its2).toArray := by simp
  rw [ea]
  have I1 := I.lnew (t' := s.toks) (r.append r2) (by rw [List.length_append]; omega)
  obtain ⟨o, I2⟩ := I1.frz upd_same (.inl ⟨_, rfl⟩)
  rw [upd_upd] at I2
  exact ⟨.ref _, _, I2, rfl, q _ o I.fresh⟩
/-- a list's items -/
theorem list_one {u : U} {h h' : VH} {f : U → VR} {n : Nat} {w : U} (e : u.list h (.bad n) f = .one w h') : (∃ d s, u = .vl d s ∧ f s = .one w h') ∨ ∃ j s, u = .ref j ∧ h.find? j = some (.lst s) ∧ f s = .one w h' := by
  cases u with
  | vl d s => exact .inl ⟨d, s, rfl, e⟩
  | ref j =>
    have e : h.at j (VR.bad n) (fun o => VO.rec f (fun _ => .bad n) (fun _ _ => .bad n) o) = .one w h' := e
    rw [VH.at_eq] at e
    cases hk : h.find? j with
    | none => rw [hk] at e; cases e
    | some o =>
      rw [hk] at e
      cases o with
      | lst s => exact .inr ⟨j, s, rfl, hk, e⟩
      | dct s => cases e
      | ins c fs => cases e
  | _ => cases e
theorem list_rd {r : Rf} {H : Hp} {h : VH} {u : U} {v : V} {s : U} (rh : RH C r H h) (hv : Rp r H u v) (e : (∃ d, u = .vl d s) ∨ ∃ j, u = .ref j ∧ h.find? j = some (.lst s)) : ∃ a xs, v = .ref a ∧ Rd H a (.lst xs) ∧ RpL r H s xs := by
  rcases e with ⟨d, rfl⟩ | ⟨j, rfl, hk⟩
  · obtain ⟨a, o, xs, rfl, g1, g2, _⟩ := (show ∃ a o xs, v = .ref a ∧ H a = some (.frz o (.lst xs)) ∧ RpL r H s xs ∧ Dep d s from hv)
    exact ⟨a, xs, rfl, .inr ⟨o, g1⟩, g2⟩
  · obtain ⟨a, rfl, ha⟩ := (show ∃ a, v = .ref a ∧ r.ρ j = some a from hv)
    obtain ⟨a', e2, xs, g1, g2⟩ := rh.obj j _ hk
    rw [ha] at e2; cases e2
    exact ⟨a, xs, rfl, .inl g1, g2⟩
theorem list_one' {u : U} {h h' : VH} {f : U → VR} {n : Nat} {w : U} (e : u.list h (.bad n) f = .one w h') : ∃ s, ((∃ d, u = .vl d s) ∨ ∃ j, u = .ref j ∧ h.find? j = some (.lst s)) ∧ f s = .one w h' := by
  rcases list_one e with ⟨d, s, e1, e2⟩ | ⟨j, s, e1, e2, e3⟩
  · exact ⟨s, .inl ⟨d, e1⟩, e2⟩
  · exact ⟨s, .inr ⟨j, e1, e2⟩, e3⟩
/-! ### two values: the judgement of an operation -/
/-- what an operation comes to -/
def rU (C : Ct) (g : U → U → VH → VR) : R2 := fun v1 v2 H Q => ∃ r h x y u h', RH C r H h ∧ Rp r H x v1 ∧ Rp r H y v2 ∧ g x y h = .one u h' ∧ Fo C r H u h' Q
theorem tS2U {fa fb : VS → VH → VR} {g : U → U → VH → VR} (σ : L2.St) (H : Hp) (Q : VK) (t : tS C (fun s h => VR.bind (fa s h) fun x h => VR.bind (fb s h) fun y h => g x y h) σ H Q) : tOp (rU C g) (tS C fa) (tS C fb) σ H Q :=
  tS2 (fun r H h x y v1 v2 u h' Q rh p1 p2 e q => ⟨r, h, x, y, u, h', rh, p1, p2, e, q⟩) σ H Q t
theorem r_bin {op : Operator} {n : Nat} (ho : OpR X (binaryOp op) (rU C (binU n))) (ha : SE C X a (ev p call ea)) (hb : SE C X b (ev p call eb)) : SE C X (.BinOp a op b pos) (ev p call (.bin n ea eb)) := fun c =>
  (pe_op ho (ha c) (hb c)).weak (tS2U (g := binU n))
/-- a tuple's items -/
theorem tup_rd {r : Rf} {H : Hp} {v : V} {d : Nat} {s : U} (hv : Rp r H (.tup d s) v) : ∃ a o xs, v = .ref a ∧ (H a = some (.frz o (.tup xs)) ∧ o.dict = none) ∧ RpL r H s xs := by
  obtain ⟨a, o, xs, e, h1, h0, h2, _⟩ := hv
  exact ⟨a, o, xs, e, ⟨h1, h0⟩, h2⟩
theorem spine_nil {r : Rf} {H : Hp} {s : U} (h : RpL r H s []) : s = .nil := by
  cases s with
  | nil => rfl
  | cons a b => obtain ⟨x, xs, e, _⟩ := h; cases e
  | _ => exact False.elim h
theorem app_nil : ∀ {s : U} {r : Rf} {H : Hp} {xs : List V}, RpL r H s xs → s.app .nil = s
  | .nil, _, _, _, _ => rfl
  | .cons a b, r, H, xs, h => by
    obtain ⟨x, ys, _, _, h2⟩ := h
    show U.cons a (b.app .nil) = _
    rw [app_nil h2]
  | .non, _, _, _, h => False.elim h
  | .bl _, _, _, _, h => False.elim h
  | .int _, _, _, _, h => False.elim h
  | .str _, _, _, _, h => False.elim h
  | .tup _ _, _, _, _, h => False.elim h
  | .vl _ _, _, _, _, h => False.elim h
  | .vd _, _, _, _, h => False.elim h
  | .ref _, _, _, _, h => False.elim h
  | .gf _, _, _, _, h => False.elim h
  | .clo _ _, _, _, _, h => False.elim h
/-- + of ints, tuples and lists -/
theorem u_add : OpR X (binaryOp .Add) (rU C (binU 0)) := by
  intro pins s σ H v1 v2 w1 w2 Q I rx ry ⟨r, h, x, y, u, h', rh, p1, p2, e, q⟩
  have cat : ∀ s t : U, ((∃ d, x = .vl d s) ∨ ∃ j, x = .ref j ∧ h.find? j = some (.lst s)) → ((∃ d, y = .vl d t) ∨ ∃ j, y = .ref j ∧ h.find? j = some (.lst t)) → few (s.app t) (VR.one (mkL (s.app t)) h) (VR.bad 142) = VR.one u h' → rCatV X.K v1 v2 H Q := fun s t hx hy e => by
    obtain ⟨a1, xs, rfl, g1, g2⟩ := list_rd rh p1 hx
    obtain ⟨a2, ys, rfl, g3, g4⟩ := list_rd rh p2 hy
    obtain ⟨e, z⟩ := few_one e (by intro q; cases q)
    cases e
    have ga := g2.app g4
    refine ⟨a1, a2, xs, ys, rfl, rfl, g1, g3, ?_, fun a o ha => q.newLst rh ga ha⟩
    have := ga.length
    rw [List.length_append] at this
    rw [sizeLine_eq]
    omega
  cases x with
  | int i =>
    obtain ⟨j, rfl, e⟩ := caseInt_one e
    cases e
    exact op_add pins s σ H _ _ w1 w2 Q I rx ry ⟨i, j, p1, p2, q.here rh rfl⟩
  | vl d s0 =>
    obtain ⟨t, hy, e⟩ := list_one' e
    exact op_catV pins s σ H _ _ w1 w2 Q I rx ry (cat s0 t (.inl ⟨d, rfl⟩) hy e)
  | ref j =>
    obtain ⟨s0, hx, e⟩ := list_one' (u := .ref j) e
    obtain ⟨t, hy, e⟩ := list_one' e
    exact op_catV pins s σ H _ _ w1 w2 Q I rx ry (cat s0 t hx hy e)
  | tup d s0 =>
    cases y with
    | tup d2 t =>
      obtain ⟨a1, o1, xs, rfl, g1, g2⟩ := tup_rd p1
      obtain ⟨a2, o2, ys, rfl, g3, g4⟩ := tup_rd p2
      obtain ⟨e, z⟩ := few_one (show few (s0.app t) (VR.one (mkT (s0.app t)) h) (VR.bad 142) = VR.one u h' from e) (by intro q; cases q)
      cases e
      have ga := g2.app g4
      have := ga.length
      rw [List.length_append] at this
      refine op_catF pins s σ H _ _ w1 w2 Q I rx ry ⟨a1, a2, xs, ys, rfl, rfl, SqT.ofF g1.1, SqT.ofF g3.1, by rw [sizeLine_eq]; omega, fun e0 => ?_, fun _ e0 => ?_, fun a o ha ho => q.newTup rh ga ha ho⟩
      · subst e0
        rw [spine_nil g2] at q
        exact q.here rh (rp_mkT g4 g3.1 g3.2)
      · subst e0
        rw [spine_nil g4, app_nil g2] at q
        exact q.here rh (rp_mkT g2 g1.1 g1.2)
    | _ => cases e
  | nil => exact False.elim p1
  | cons a b => exact False.elim p1
  | _ => cases e
theorem r_add (ha : SE C X a (ev p call ea)) (hb : SE C X b (ev p call eb)) : SE C X (.BinOp a .Add b pos) (ev p call (.bin 0 ea eb)) := r_bin u_add ha hb
/-! ### comparisons -/
def isV : U → Bool
  | .nil => false
  | .cons _ _ => false
  | _ => true
theorem isV_of {r : Rf} {H : Hp} {u : U} {v : V} (h : Rp r H u v) : isV u = true := by
  cases u with
  | nil => exact False.elim h
  | cons a b => exact False.elim h
  | _ => rfl
theorem eqU_dp : ∀ {a b : U}, isV a = true → isV b = true → eqU a b ≠ .unk → dpI a ≠ 0 ∧ dpI b ≠ 0 := by
  intro a b ha hb h
  have one : ∀ {n : Nat} {s : U} {t : Tri}, (Nat.rec .unk (fun _ _ => t) n : Tri) ≠ .unk → n ≠ 0 := fun {n s t} q z => by subst z; exact q rfl
  cases a <;> cases b <;> first
    | exact ⟨Nat.succ_ne_zero _, Nat.succ_ne_zero _⟩
    | exact absurd rfl h
    | exact absurd (show false = true from ha) (by decide)
    | exact absurd (show false = true from hb) (by decide)
    | (rename_i q t; cases q <;> first | exact absurd rfl h | exact ⟨Nat.succ_ne_zero _, Nat.succ_ne_zero _⟩)
    | (rename_i q t z; cases q <;> first | exact absurd rfl h | exact ⟨Nat.succ_ne_zero _, Nat.succ_ne_zero _⟩)
    | (rename_i q t z w; cases q <;> cases z <;> first | exact absurd rfl h | exact ⟨Nat.succ_ne_zero _, Nat.succ_ne_zero _⟩)
theorem shaped_of {d : PyData} (h1 : PyData.canLay0 d = true) (h2 : PyData.depth d ≤ 64) : SeqAt.shaped d = true := by
  unfold SeqAt.shaped
  rw [h1, decide_eq_true h2]; rfl
theorem look_ref (k : Nat) (h : VH) : (U.ref k).look h = match h.find? k with | some (.lst s) => mkL s | _ => U.ref k := by
  show h.at k (U.ref k) (fun o => (VO.rec (fun s => mkL s) (fun _ => U.ref k) (fun _ _ => U.ref k) o : U)) = _
  rw [VH.at_eq]
  cases h.find? k with
  | none => rfl
  | some o => cases o <;> rfl
theorem look_dp {r : Rf} {H : Hp} {h : VH} {u : U} {v : V} (K : PySem.W.Frag) (rh : RH C r H h) (hv : Rp r H u v) (hd : dpI (u.look h) ≠ 0) : ∃ d, uD (u.look h) = some d ∧ Dp K H v d ∧ SeqAt.shaped d = true := by
  have plain : u.look h = u → ∃ d, uD (u.look h) = some d ∧ Dp K H v d ∧ SeqAt.shaped d = true := fun e => by
    rw [e] at hd ⊢
    obtain ⟨d, e1, c, l, l2⟩ := data_of hv hd
    exact ⟨d, e1, (dp_of u).1 v d e1 hv, shaped_of c (by omega)⟩
  cases u with
  | ref k =>
    cases hk : h.find? k with
    | none => rw [look_ref, hk] at hd; exact absurd rfl hd
    | some o =>
      rw [look_ref, hk] at hd ⊢
      cases o with
      | lst s =>
        obtain ⟨a, rfl, ha⟩ := (show ∃ a, v = .ref a ∧ r.ρ k = some a from hv)
        obtain ⟨a', e2, xs, g1, g2⟩ := rh.obj k _ hk
        rw [ha] at e2; cases e2
        have hn : dpL (dpS s) ≠ 0 := fun z => hd (by show dpI (.vl (dpL (dpS s)) s) = 0; rw [z]; rfl)
        obtain ⟨ds, e3, c, l, l2⟩ := dep_of g2 hn
        refine ⟨.list ds, ?_, .lst (SqL.of g1) ((dp_of s).2 xs ds e3 g2), shaped_of (by rw [PyData.canLay0]; exact c) (by rw [PyData.depth]; omega)⟩
        show (UD s).2.map PyData.list = _
        rw [show (UD s).2 = some ds from e3]; rfl
      | dct s => exact absurd rfl hd
      | ins c fs => exact absurd rfl hd
  | _ => exact plain rfl
theorem isV_look {r : Rf} {H : Hp} {h : VH} {u : U} {v : V} (hv : Rp r H u v) : isV (u.look h) = true := by
  have := isV_of hv
  cases u with
  | ref k =>
    rw [look_ref]
    cases hk : h.find? k with
    | none => rfl
    | some o => cases o <;> rfl
  | _ => exact this
/-- what a Tri ends as -/
theorem triR_one {t : Tri} {h h' : VH} {u : U} (e : triR t h = .one u h') : h' = h ∧ t ≠ .unk ∧ ∃ b, u = .bl b ∧ ∀ c, Says t c → b = c := by
  cases t with
  | no => cases e; exact ⟨rfl, (by intro z; cases z), false, rfl, fun c s => (s.2 rfl).symm⟩
  | yes => cases e; exact ⟨rfl, (by intro z; cases z), true, rfl, fun c s => (s.1 rfl).symm⟩
  | unk => cases e
theorem ntriR_one {t : Tri} {h h' : VH} {u : U} (e : ntriR t h = .one u h') : h' = h ∧ t ≠ .unk ∧ ∃ b, u = .bl b ∧ ∀ c, Says t c → b = !c := by
  cases t with
  | no => cases e; exact ⟨rfl, (by intro z; cases z), true, rfl, fun c s => by rw [s.2 rfl]; rfl⟩
  | yes => cases e; exact ⟨rfl, (by intro z; cases z), false, rfl, fun c s => by rw [s.1 rfl]; rfl⟩
  | unk => cases e
theorem eqH_ok {r : Rf} {H : Hp} {h : VH} {x y : U} {v1 v2 : V} (K : PySem.W.Frag) (rh : RH C r H h) (p1 : Rp r H x v1) (p2 : Rp r H y v2) (n : eqH x y h ≠ .unk) :
    ∃ d e, Dp K H v1 d ∧ Dp K H v2 e ∧ SeqAt.shaped d = true ∧ SeqAt.shaped e = true ∧ Says (eqH x y h) (PyData.eqv d e) := by
  obtain ⟨n1, n2⟩ := eqU_dp (isV_look p1) (isV_look p2) n
  obtain ⟨d, e1, g1, s1⟩ := look_dp K rh p1 n1
  obtain ⟨e, e2, g2, s2⟩ := look_dp K rh p2 n2
  exact ⟨d, e, g1, g2, s1, s2, (eqU_ok _ _).1 d e e1 e2⟩
/-- a comparison, as a value and as a test -/
theorem r_cmpOf {op : CmpOp} {n : Nat} {rd : R2} (ho : OpR X (compareOp op) rd) (hm : behindInMarks op b = false)
    (hg : ∀ r H h x y v1 v2 u h' Q, RH C r H h → Rp r H x v1 → Rp r H y v2 → cmpU n x y h = .one u h' → Fo C r H u h' Q → rd v1 v2 H Q)
    (ha : SE C X a (ev p call ea)) (hb : SE C X b (ev p call eb)) : SE C X (.Compare a [op] [b] pos) (ev p call (.cmp n ea eb)) := fun c => by
  exact (pe_cmpR ho (ha c) (hb c) hm).weak (tS2 (g := fun x y h => cmpU n x y h) hg)
theorem b_cmpOf {op : CmpOp} {n : Nat} {rd : R2} (ho : OpR X (compareOp op) rd) (hm : behindInMarks op b = false)
    (hg : ∀ r H h x y v1 v2 u h' Q, RH C r H h → Rp r H x v1 → Rp r H y v2 → cmpU n x y h = .one u h' → Fo C r H u h' Q → rd v1 v2 H Q)
    (hbl : ∀ x y h u h', cmpU n x y h = .one u h' → ∃ b, u = .bl b)
    (ha : SE C X a (ev p call ea)) (hb : SE C X b (ev p call eb)) : SB C X (.Compare a [op] [b] pos) (ev p call (.cmp n ea eb)) := fun c => by
  refine (pt_cmpR ho (ha c) (hb c) hm).weak fun σ H Q ⟨r, h, s, u, h', t, rh, rs, e, et, q⟩ => ?_
  refine tS2 (g := fun x y h => cmpU n x y h) hg σ H _ ⟨r, h, s, u, h', rh, rs, e, fun r1 H1 v l1 k1 rh1 p1 => ?_⟩
  obtain ⟨x, h1, e1, e⟩ := bind_one e
  obtain ⟨y, h2, e2, e⟩ := bind_one e
  obtain ⟨b, rfl⟩ := hbl x y h2 u h' e
  rw [true_rb] at et
  cases et
  exact ⟨_, p1, q r1 H1 l1 k1 rh1⟩
theorem g_eq (hr : Room k X.A) : ∀ r H h x y v1 v2 u h' Q, RH C r H h → Rp r H x v1 → Rp r H y v2 → cmpU 0 x y h = .one u h' → Fo C r H u h' Q → rEqD X.K v1 v2 H Q := by
  intro r H h x y v1 v2 u h' Q rh p1 p2 e q
  obtain ⟨rfl, n, b, rfl, hb⟩ := triR_one (t := eqH x y h) e
  obtain ⟨d, e1, g1, g2, s1, s2, sy⟩ := eqH_ok X.K rh p1 p2 n
  exact ⟨d, e1, g1, g2, s1, s2, by rw [← hb _ sy]; exact q.here rh rfl⟩
theorem g_ne (hr : Room k X.A) : ∀ r H h x y v1 v2 u h' Q, RH C r H h → Rp r H x v1 → Rp r H y v2 → cmpU 1 x y h = .one u h' → Fo C r H u h' Q → rNeD X.K v1 v2 H Q := by
  intro r H h x y v1 v2 u h' Q rh p1 p2 e q
  obtain ⟨rfl, n, b, rfl, hb⟩ := ntriR_one (t := eqH x y h) e
  obtain ⟨d, e1, g1, g2, s1, s2, sy⟩ := eqH_ok X.K rh p1 p2 n
  exact ⟨d, e1, g1, g2, s1, s2, by rw [← hb _ sy]; exact q.here rh rfl⟩
theorem tri_bl {t : Tri} {h h' : VH} {u : U} (e : triR t h = .one u h') : ∃ b, u = .bl b := (triR_one e).2.2.imp fun _ z => z.1
theorem ntri_bl {t : Tri} {h h' : VH} {u : U} (e : ntriR t h = .one u h') : ∃ b, u = .bl b := (ntriR_one e).2.2.imp fun _ z => z.1
theorem r_eq (x : XC C X k) (ha : SE C X a (ev p call ea)) (hb : SE C X b (ev p call eb)) : SE C X (.Compare a [.Eq] [b] pos) (ev p call (.cmp 0 ea eb)) := r_cmpOf (op_eqD x.room.units) (nomark _) (g_eq x.room) ha hb
theorem b_eq (x : XC C X k) (ha : SE C X a (ev p call ea)) (hb : SE C X b (ev p call eb)) : SB C X (.Compare a [.Eq] [b] pos) (ev p call (.cmp 0 ea eb)) := b_cmpOf (op_eqD x.room.units) (nomark _) (g_eq x.room) (fun _ _ _ _ _ e => tri_bl e) ha hb
theorem r_ne (x : XC C X k) (ha : SE C X a (ev p call ea)) (hb : SE C X b (ev p call eb)) : SE C X (.Compare a [.NotEq] [b] pos) (ev p call (.cmp 1 ea eb)) := r_cmpOf (op_neD x.room.units) (nomark _) (g_ne x.room) ha hb
theorem b_ne (x : XC C X k) (ha : SE C X a (ev p call ea)) (hb : SE C X b (ev p call eb)) : SB C X (.Compare a [.NotEq] [b] pos) (ev p call (.cmp 1 ea eb)) := b_cmpOf (op_neD x.room.units) (nomark _) (g_ne x.room) (fun _ _ _ _ _ e => ntri_bl e) ha hb
/-- is None -/
theorem isNone_ok {r : Rf} {H : Hp} {u : U} {v : V} (h : Rp r H u v) : isNone u = decide (v = .non) := by
  cases u with
  | non => cases (show v = .non from h); rfl
  | bl b => cases (show v = .bl b from h); rfl
  | int i => cases (show v = .int i from h); rfl
  | str n => obtain ⟨x, rfl, _⟩ := (show ∃ x, v = .str x ∧ StrIs n x from h); rfl
  | tup d s => obtain ⟨a, _, _, rfl, _⟩ := (show ∃ a o xs, v = .ref a ∧ _ from h); rfl
  | vl d s => obtain ⟨a, _, _, rfl, _⟩ := (show ∃ a o xs, v = .ref a ∧ _ from h); rfl
  | ref k => obtain ⟨a, rfl, _⟩ := (show ∃ a, v = .ref a ∧ _ from h); rfl
  | gf f => obtain ⟨a, rfl, _⟩ := (show ∃ a, v = .ref a ∧ _ from h); rfl
  | nil => exact False.elim h
  | cons a b => exact False.elim h
  | vd s => obtain ⟨a, _, rfl, _⟩ := (show ∃ a o, v = .ref a ∧ _ from h); rfl
  | clo f c => exact False.elim h
theorem isN_ok {r : Rf} {H : Hp} {x y : U} {v1 v2 : V} (p1 : Rp r H x v1) (p2 : Rp r H y v2) (n : isN x y ≠ .unk) : v2 = .non ∧ Says (isN x y) (decide (v1 = .non)) := by
  have e : isN x y = (Bool.rec .unk (tri (isNone x)) (isNone y) : Tri) := rfl
  cases hy : isNone y with
  | false => rw [e, hy] at n; exact absurd rfl n
  | true =>
    rw [e, hy]
    rw [isNone_ok p2] at hy
    exact ⟨of_decide_eq_true hy, says_tri (isNone_ok p1)⟩
theorem g_isN : ∀ r H h x y v1 v2 u h' Q, RH C r H h → Rp r H x v1 → Rp r H y v2 → cmpU 8 x y h = .one u h' → Fo C r H u h' Q → v2 = .non ∧ Q (.bl (decide (v1 = .non))) H := by
  intro r H h x y v1 v2 u h' Q rh p1 p2 e q
  obtain ⟨rfl, n, b, rfl, hb⟩ := triR_one (t := isN x y) e
  obtain ⟨e2, sy⟩ := isN_ok p1 p2 n
  exact ⟨e2, by rw [← hb _ sy]; exact q.here rh rfl⟩
theorem g_notN : ∀ r H h x y v1 v2 u h' Q, RH C r H h → Rp r H x v1 → Rp r H y v2 → cmpU 9 x y h = .one u h' → Fo C r H u h' Q → v2 = .non ∧ Q (.bl (!decide (v1 = .non))) H := by
  intro r H h x y v1 v2 u h' Q rh p1 p2 e q
  obtain ⟨rfl, n, b, rfl, hb⟩ := ntriR_one (t := isN x y) e
  obtain ⟨e2, sy⟩ := isN_ok p1 p2 n
  exact ⟨e2, by rw [← hb _ sy]; exact q.here rh rfl⟩
theorem r_isN (ha : SE C X a (ev p call ea)) (hb : SE C X b (ev p call eb)) : SE C X (.Compare a [.Is] [b] pos) (ev p call (.cmp 8 ea eb)) := r_cmpOf op_isN (nomark _) g_isN ha hb
theorem b_isN (ha : SE C X a (ev p call ea)) (hb : SE C X b (ev p call eb)) : SB C X (.Compare a [.Is] [b] pos) (ev p call (.cmp 8 ea eb)) := b_cmpOf op_isN (nomark _) g_isN (fun _ _ _ _ _ e => tri_bl e) ha hb
theorem r_notN (ha : SE C X a (ev p call ea)) (hb : SE C X b (ev p call eb)) : SE C X (.Compare a [.IsNot] [b] pos) (ev p call (.cmp 9 ea eb)) := r_cmpOf op_notN (nomark _) g_notN ha hb
theorem b_notN (ha : SE C X a (ev p call ea)) (hb : SE C X b (ev p call eb)) : SB C X (.Compare a [.IsNot] [b] pos) (ev p call (.cmp 9 ea eb)) := b_cmpOf op_notN (nomark _) g_notN (fun _ _ _ _ _ e => ntri_bl e) ha hb
end
end
end VI
namespace VI
open PySem PySem.Spec PyProof.Rows L2
noncomputable section
section
variable {C : Ct} {X : Cx} {k : Nat} {p : Prog} {call : Nat → U → VH → VR} {a b c e : Expr} {es rest : List Expr} {ea eb ec : VE} {pos : Pos}
/-! ### comparisons by judgement -/
abbrev CmpOk (C : Ct) (X : Cx) (op : CmpOp) (n : Nat) : Prop := OpR X (compareOp op) (rU C (cmpU n))
theorem cmp_bl {n : Nat} {x y u : U} {h h' : VH} (e : cmpU n x y h = .one u h') : (∃ b, u = .bl b) ∧ h' = h := by
  have t : ∀ {t : Tri}, triR t h = .one u h' → (∃ b, u = .bl b) ∧ h' = h := fun e => ⟨tri_bl e, (triR_one e).1⟩
  have f : ∀ {t : Tri}, ntriR t h = .one u h' → (∃ b, u = .bl b) ∧ h' = h := fun e => ⟨ntri_bl e, (ntriR_one e).1⟩
  match n, e with
  | 0, e => exact t e
  | 1, e => exact f e
  | 2, e => exact t e
  | 3, e => exact f e
  | 4, e => exact t e
  | 5, e => exact f e
  | 6, e => exact t e
  | 7, e => exact f e
  | 8, e => exact t e
  | 9, e => exact f e
  | 10, e => exact t e
  | 11, e => exact f e
  | 12, e => exact t e
  | 13, e => exact f e
  | n + 14, e => cases (show VR.bad 5 = .one u h' from e)
theorem r_cmp {op : CmpOp} {n : Nat} (ho : CmpOk C X op n) (hm : behindInMarks op b = false) (ha : SE C X a (ev p call ea)) (hb : SE C X b (ev p call eb)) : SE C X (.Compare a [op] [b] pos) (ev p call (.cmp n ea eb)) := fun c =>
  (pe_cmpR ho (ha c) (hb c) hm).weak (tS2U (g := cmpU n))
theorem b_cmp {op : CmpOp} {n : Nat} (ho : CmpOk C X op n) (hm : behindInMarks op b = false) (ha : SE C X a (ev p call ea)) (hb : SE C X b (ev p call eb)) : SB C X (.Compare a [op] [b] pos) (ev p call (.cmp n ea eb)) := fun c => by
  refine (pt_cmpR ho (ha c) (hb c) hm).weak fun σ H Q ⟨r, h, s, u, h', t, rh, rs, e, et, q⟩ => ?_
  refine tS2U (g := cmpU n) σ H _ ⟨r, h, s, u, h', rh, rs, e, fun r1 H1 v l1 k1 rh1 p1 => ?_⟩
  obtain ⟨x, h1, e1, e⟩ := bind_one e
  obtain ⟨y, h2, e2, e⟩ := bind_one e
  obtain ⟨⟨b, rfl⟩, _⟩ := cmp_bl e
  rw [true_rb] at et
  cases et
  exact ⟨_, p1, q r1 H1 l1 k1 rh1⟩
/-- a op1 b op2 c -/
theorem chainT {o1 o2 : Nat} {f1 f2 f3 : VS → VH → VR} (σ : L2.St) (H : Hp) (Q : VK) (t : tS C (fun s h => VR.bind (f1 s h) fun x h => VR.bind (f2 s h) fun y h => VR.bind (cmpU o1 x y h) fun t h => t.true? h (.bad 103) (rb false h) (VR.bind (f3 s h) fun z h => cmpU o2 y z h)) σ H Q) :
    tChain (rU C (cmpU o1)) (rU C (cmpU o2)) (tS C f1) (tS C f2) (tS C f3) σ H Q := by
  obtain ⟨r, h, s, u, h', rh, rs, e, q⟩ := t
  obtain ⟨x, h1, e1, e⟩ := bind_one e
  obtain ⟨y, h2, e2, e⟩ := bind_one e
  obtain ⟨z, h3, e3, e⟩ := bind_one e
  refine ⟨r, h, s, x, h1, rh, rs, e1, fun r1 H1 v1 l1 k1 rh1 p1 => ⟨r1, h1, s, y, h2, rh1, rs.mono l1 k1, e2, fun r2 H2 v2 l2 k2 rh2 p2 => ?_⟩⟩
  refine ⟨r2, h2, x, y, z, h3, rh2, p1.mono l2 k2, p2, e3, fun r3 H3 v3 l3 k3 rh3 p3 => ?_⟩
  obtain ⟨⟨b, rfl⟩, _⟩ := cmp_bl e3
  refine ⟨b, p3, ?_⟩
  cases b with
  | false =>
    cases (show rb false h3 = .one u h' from e)
    rw [if_neg (by decide)]
    exact q r3 H3 _ ((l1.trans l2).trans l3) ((k1.trans k2).trans k3) rh3 rfl
  | true =>
    rw [if_pos rfl]
    obtain ⟨w, h4, e4, e⟩ := bind_one (show VR.bind (f3 s h3) (fun z h => cmpU o2 y z h) = .one u h' from e)
    refine ⟨r3, h3, s, w, h4, rh3, rs.mono ((l1.trans l2).trans l3) ((k1.trans k2).trans k3), e4, fun r4 H4 v4 l4 k4 rh4 p4 => ?_⟩
    exact ⟨r4, h4, y, w, u, h', rh4, p2.mono (l3.trans l4) (k3.trans k4), p4, e, fun r5 H5 v5 l5 k5 rh5 p5 => q r5 H5 v5 ((((l1.trans l2).trans l3).trans l4).trans l5) ((((k1.trans k2).trans k3).trans k4).trans k5) rh5 p5⟩
theorem r_chain {op1 op2 : CmpOp} {o1 o2 : Nat} (h1 : CmpOk C X op1 o1) (h2 : CmpOk C X op2 o2) (ha : SE C X a (ev p call ea)) (hb : SE C X b (ev p call eb)) (hc : SE C X c (ev p call ec)) (hm : lastMarks [op1, op2] [b, c] = false := by with_unfolding_all rfl) :
    SE C X (.Compare a [op1, op2] [b, c] pos) (ev p call (.chain o1 o2 ea eb ec)) := fun cc => (pe_chain h1 h2 (ha cc) (hb cc) (hc cc) hm).weak chainT
theorem b_chain {op1 op2 : CmpOp} {o1 o2 : Nat} (h1 : CmpOk C X op1 o1) (h2 : CmpOk C X op2 o2) (ha : SE C X a (ev p call ea)) (hb : SE C X b (ev p call eb)) (hc : SE C X c (ev p call ec)) (hm : lastMarks [op1, op2] [b, c] = false := by with_unfolding_all rfl) :
    SB C X (.Compare a [op1, op2] [b, c] pos) (ev p call (.chain o1 o2 ea eb ec)) := fun cc => by
  refine (pt_chain h1 h2 (ha cc) (hb cc) (hc cc) hm).weak fun σ H Q ⟨r, h, s, u, h', t, rh, rs, e, et, q⟩ => ?_
  refine chainT σ H _ ⟨r, h, s, u, h', rh, rs, e, fun r1 H1 v l1 k1 rh1 p1 => ?_⟩
  obtain ⟨x, h1, e1, e⟩ := bind_one e
  obtain ⟨y, h2, e2, e⟩ := bind_one e
  obtain ⟨z, h3, e3, e⟩ := bind_one e
  obtain ⟨⟨b, rfl⟩, _⟩ := cmp_bl e3
  have : ∃ b, u = .bl b := by
    cases b with
    | false => cases (show rb false h3 = .one u h' from e); exact ⟨_, rfl⟩
    | true =>
      obtain ⟨w, h4, e4, e⟩ := bind_one (show VR.bind (ev p call ec cc s h3) (fun z h => cmpU o2 y z h) = .one u h' from e)
      exact (cmp_bl e).1
  obtain ⟨b2, rfl⟩ := this
  rw [true_rb] at et
  cases et
  exact ⟨_, p1, q r1 H1 l1 k1 rh1⟩
/-! ### order -/
def spL : List U → U
  | [] => .nil
  | x :: xs => .cons x (spL xs)
theorem digs_eq (n : Nat) : ∀ acc : List Nat, digs n (spL (acc.map fun c => .int (Int.ofNat c))) = spL ((charsG 1000000 n acc).map fun c => .int (Int.ofNat c)) := by
  have : ∀ (f n : Nat) (acc : List Nat), (Nat.rec (motive := fun _ => Nat → U → U) (fun _ a => a) (fun _ ih n a => Bool.rec (ih (Nat.div (Nat.pred n) vB) (.cons (.int (.ofNat (Nat.mod (Nat.pred n) vB))) a)) a (Nat.beq n 0)) f n (spL (acc.map fun c => .int (Int.ofNat c)))) = spL ((charsG f n acc).map fun c => .int (Int.ofNat c)) := by
    intro f
    induction f with
    | zero => intro n acc; rfl
    | succ f ih =>
      intro n acc
      by_cases hn : n = 0
      · subst hn; rw [charsG, if_pos rfl]; rfl
      · rw [charsG, if_neg hn]
        have hb : Nat.beq n 0 = false := by cases n with | zero => exact absurd rfl hn | succ m => rfl
        have e := ih ((n - 1) / vB) (((n - 1) % vB) :: acc)
        rw [← e]
        show (Bool.rec _ _ (Nat.beq n 0) : U) = _
        rw [hb]
        rfl
  exact this 1000000 n
theorem digs_nil (n : Nat) : digs n .nil = spL ((charsL n).map fun c => .int (Int.ofNat c)) := digs_eq n []
theorem bltI_nat (x y : Nat) : bltI (.ofNat x) (.ofNat y) = decide (x < y) := by
  show Nat.ble (x + 1) y = _
  by_cases h : x < y
  · rw [decide_eq_true h]; exact Nat.ble_eq.mpr h
  · rw [decide_eq_false h]
    cases hb : Nat.ble (x + 1) y with
    | false => rfl
    | true => exact absurd (Nat.ble_eq.mp hb) h
theorem ltL_eq : ∀ l m : List Nat, ltL (spL (l.map fun c => .int (Int.ofNat c))) (spL (m.map fun c => .int (Int.ofNat c))) = decide (l < m)
  | [], [] => by rw [decide_eq_false (by simp)]; rfl
  | [], y :: m => by rw [decide_eq_true (by simp)]; rfl
  | x :: l, [] => by rw [decide_eq_false (by simp)]; rfl
  | x :: l, y :: m => by
    have ih := ltL_eq l m
    have e : decide (x :: l < y :: m) = (if x = y then decide (l < m) else decide (x < y)) := by
      rw [show decide (x :: l < y :: m) = decide (x < y ∨ x = y ∧ l < m) from decide_eq_decide.mpr List.cons_lt_cons_iff]
      by_cases h : x = y
      · subst h; simp
      · simp [h]
    rw [e, ← ih]
    show (Bool.rec (bltI (.ofNat x) (.ofNat y)) (ltL _ _) (beqI (.ofNat x) (.ofNat y)) : Bool) = _
    rw [beqI_eq, bltI_nat]
    by_cases h : x = y
    · rw [if_pos h, show decide (Int.ofNat x = Int.ofNat y) = true from decide_eq_true (by rw [h])]
    · rw [if_neg h, show decide (Int.ofNat x = Int.ofNat y) = false from decide_eq_false (fun z => h (Int.ofNat.inj z))]
theorem dec_cps (n : Nat) : (dec n).cps.toList = charsL n := by show (charsL n).toArray.toList = _; simp
theorem ltL_str (n m : Nat) : ltL (digs n .nil) (digs m .nil) = decide ((dec n).cps.toList < (dec m).cps.toList) := by
  rw [digs_nil, digs_nil, ltL_eq, dec_cps, dec_cps]
theorem bltI_eq (i j : Int) : bltI i j = decide (i < j) := by
  cases i with
  | ofNat x =>
    cases j with
    | ofNat y => rw [bltI_nat]; exact decide_eq_decide.mpr (by simp)
    | negSucc y => symm; exact decide_eq_false (by intro h; have := Int.negSucc_lt_zero y; simp only [Int.ofNat_eq_natCast] at h; omega)
  | negSucc x =>
    cases j with
    | ofNat y => symm; exact decide_eq_true (by have := Int.negSucc_lt_zero x; simp only [Int.ofNat_eq_natCast]; omega)
    | negSucc y =>
      show Nat.ble (y + 1) x = _
      by_cases h : y < x
      · rw [show Nat.ble (y + 1) x = true from Nat.ble_eq.mpr h]; symm; exact decide_eq_true (by simp only [Int.negSucc_eq]; omega)
      · have hb : Nat.ble (y + 1) x = false := by
          cases hb : Nat.ble (y + 1) x with
          | false => rfl
          | true => exact absurd (Nat.ble_eq.mp hb) h
        rw [hb]; symm; exact decide_eq_false (by simp only [Int.negSucc_eq]; omega)
/-- data -/
theorem alU_eq : ∀ a : U, (∀ d (b : U) e, uD a = some d → uD b = some e → alU a b = PySem.W.alike d e) ∧ (∀ ds (b : U) es, uL a = some ds → uL b = some es → alU a b = PySem.W.alikeAll ds es) := by
  intro a
  have nol : ∀ {u : U} {P : Prop}, uL u = none → ∀ ds, uL u = some ds → P := fun e ds z => by rw [e] at z; cases z
  have fin : ∀ {a : U} {d : PyData} (f : U → Bool), (∀ b, alU a b = f b) → (∀ b e, uD b = some e → f b = PySem.W.alike d e) → uD a = some d → ∀ d' b e, uD a = some d' → uD b = some e → alU a b = PySem.W.alike d' e := fun f h1 h2 ha d' b e h3 h4 => by
    rw [ha] at h3; cases h3
    rw [h1, h2 b e h4]
  induction a with
  | non =>
    refine ⟨fun d b e h1 h2 => ?_, fun ds b es h => by cases h⟩
    cases h1
    cases b <;> first
      | (cases h2; done)
      | (cases h2; rfl)
      | (obtain ⟨rfl, _⟩ := uD_str h2; rfl)
      | (obtain ⟨_, rfl, _⟩ := uD_tup h2; rfl)
      | (obtain ⟨_, rfl, _⟩ := uD_vl h2; rfl)
  | bl x =>
    refine ⟨fun d b e h1 h2 => ?_, fun ds b es h => by cases h⟩
    cases h1
    cases b <;> first
      | (cases h2; done)
      | (cases h2; rfl)
      | (obtain ⟨rfl, _⟩ := uD_str h2; rfl)
      | (obtain ⟨_, rfl, _⟩ := uD_tup h2; rfl)
      | (obtain ⟨_, rfl, _⟩ := uD_vl h2; rfl)
  | int x =>
    refine ⟨fun d b e h1 h2 => ?_, fun ds b es h => by cases h⟩
    cases h1
    cases b <;> first
      | (cases h2; done)
      | (cases h2; rfl)
      | (obtain ⟨rfl, _⟩ := uD_str h2; rfl)
      | (obtain ⟨_, rfl, _⟩ := uD_tup h2; rfl)
      | (obtain ⟨_, rfl, _⟩ := uD_vl h2; rfl)
  | str x =>
    refine ⟨fun d b e h1 h2 => ?_, fun ds b es h => by cases h⟩
    obtain ⟨rfl, _⟩ := uD_str h1
    cases b <;> first
      | (cases h2; done)
      | (cases h2; rfl)
      | (obtain ⟨rfl, _⟩ := uD_str h2; rfl)
      | (obtain ⟨_, rfl, _⟩ := uD_tup h2; rfl)
      | (obtain ⟨_, rfl, _⟩ := uD_vl h2; rfl)
  | nil =>
    refine ⟨(fun d b e h1 h2 => by cases h1), fun ds b es h1 h2 => ?_⟩
    cases h1
    rw [PySem.W.alikeAll]; rfl
  | cons a r iha ihr =>
    refine ⟨(fun d b e h1 h2 => by cases h1), fun ds b es h1 h2 => ?_⟩
    obtain ⟨x, xs, rfl, h3, h4⟩ := uL_cons h1
    cases b with
    | nil => cases h2; rw [PySem.W.alikeAll]; rfl
    | cons c t =>
      obtain ⟨y, ys, rfl, h5, h6⟩ := uL_cons h2
      rw [PySem.W.alikeAll]
      show (Bool.rec false (alU r t) (alU a c) : Bool) = _
      rw [iha.1 x c y h3 h5, ihr.2 xs t ys h4 h6]
      cases PySem.W.alike x y <;> rfl
    | _ => cases h2
  | tup p s ih =>
    refine ⟨fun d b e h1 h2 => ?_, fun ds b es h => by cases h⟩
    obtain ⟨ds, rfl, h3⟩ := uD_tup h1
    cases b <;> first
      | (cases h2; done)
      | (cases h2; rfl)
      | (obtain ⟨rfl, _⟩ := uD_str h2; rfl)
      | (obtain ⟨es, rfl, h4⟩ := uD_tup h2; rw [PySem.W.alike]; exact ih.2 ds _ es h3 h4)
      | (obtain ⟨_, rfl, _⟩ := uD_vl h2; rfl)
  | vl p s ih =>
    refine ⟨fun d b e h1 h2 => ?_, fun ds b es h => by cases h⟩
    obtain ⟨ds, rfl, h3⟩ := uD_vl h1
    cases b <;> first
      | (cases h2; done)
      | (cases h2; rfl)
      | (obtain ⟨rfl, _⟩ := uD_str h2; rfl)
      | (obtain ⟨es, rfl, h4⟩ := uD_vl h2; rw [PySem.W.alike]; exact ih.2 ds _ es h3 h4)
      | (obtain ⟨_, rfl, _⟩ := uD_tup h2; rfl)
  | _ => exact ⟨fun d b e h1 => (by cases h1), fun ds b es h1 => (by cases h1)⟩
open PySem.W (alike alikeAll dataLt keyToksAll) in
theorem ltU_ok : ∀ a : U, (∀ d (b : U) e, uD a = some d → uD b = some e → alike d e = true → Says (ltU a b) (dataLt d e)) ∧ (∀ ds (b : U) es, uL a = some ds → uL b = some es → alikeAll ds es = true → Says (ltU a b) (PyProof.Rows.lexLt itemOrd (keyToksAll ds) (keyToksAll es))) := by
  intro a
  induction a with
  | non => exact ⟨fun d b e h1 h2 al => says_unk, fun ds b es h => by cases h⟩
  | bl x => exact ⟨fun d b e h1 h2 al => says_unk, fun ds b es h => by cases h⟩
  | int x =>
    refine ⟨fun d b e h1 h2 al => ?_, fun ds b es h => by cases h⟩
    cases h1
    cases b <;> first
      | (cases h2; done)
      | (cases h2; exact says_unk)
      | (cases h2; rw [PySem.W.dataLt_int]; exact says_tri (bltI_eq _ _))
      | exact says_unk
  | str x =>
    refine ⟨fun d b e h1 h2 al => ?_, fun ds b es h => by cases h⟩
    obtain ⟨rfl, _⟩ := uD_str h1
    cases b <;> first
      | (cases h2; done)
      | (cases h2; exact says_unk)
      | (obtain ⟨rfl, _⟩ := uD_str h2; rw [PySem.W.dataLt_str]; exact says_tri (ltL_str _ _))
      | exact says_unk
  | nil =>
    refine ⟨(fun d b e h1 h2 => by cases h1), fun ds b es h1 h2 al => ?_⟩
    cases h1
    cases b with
    | nil => cases h2; refine ⟨(fun z => by cases z), fun _ => ?_⟩; exact PyProof.Rows.lex_irrefl _
    | cons c t =>
      obtain ⟨y, ys, rfl, _, _⟩ := uL_cons h2
      refine ⟨fun _ => ?_, (fun z => by cases z)⟩
      rw [PySem.W.toks_all_cons]
      simp only [keyToksAll]
      rw [PyProof.Rows.lex_diff (O := itemOrd) (by simp)]
      simp [PyProof.Rows.itemLt, itemOrd]
    | _ => cases h2
  | cons a r iha ihr =>
    refine ⟨(fun d b e h1 h2 => by cases h1), fun ds b es h1 h2 al => ?_⟩
    obtain ⟨x, xs, rfl, h3, h4⟩ := uL_cons h1
    cases b with
    | nil =>
      cases h2
      refine ⟨(fun z => by cases z), fun _ => ?_⟩
      rw [PySem.W.toks_all_cons]
      simp only [keyToksAll]
      rw [PyProof.Rows.lex_diff (O := itemOrd) (by simp)]
      simp [PyProof.Rows.itemLt, itemOrd]
    | cons c t =>
      obtain ⟨y, ys, rfl, h5, h6⟩ := uL_cons h2
      obtain ⟨al1, al2⟩ := PySem.W.alike_all_cons al
      have q1 := iha.1 x c y h3 h5 al1
      have q2 := ihr.2 xs t ys h4 h6 al2
      have q0 := (eqU_ok a c).1 x y h3 h5
      show Says (Tri.rec (ltU a c) (ltU r t) .unk (eqU a c)) _
      cases he : eqU a c with
      | no => rw [PySem.W.dataLt_all_no al1 (q0.2 he)]; exact q1
      | yes => rw [PySem.W.dataLt_all_yes al1 (q0.1 he)]; exact q2
      | unk => exact says_unk
    | _ => cases h2
  | tup p s ih =>
    refine ⟨fun d b e h1 h2 al => ?_, fun ds b es h => by cases h⟩
    obtain ⟨ds, rfl, h3⟩ := uD_tup h1
    cases p with
    | zero => exact says_unk
    | succ p =>
      cases b with
      | tup q t =>
        obtain ⟨es, rfl, h4⟩ := uD_tup h2
        cases q with
        | zero => exact says_unk
        | succ q =>
          rw [PySem.W.dataLt_tuple]
          exact ih.2 ds t es h3 h4 (by rw [alike] at al; exact al)
      | _ => exact says_unk
  | vl p s ih => exact ⟨fun d b e h1 h2 al => says_unk, fun ds b es h => by cases h⟩
  | _ => exact ⟨fun d b e h1 => (by cases h1), fun ds b es h1 => (by cases h1)⟩
/-- where < is told, both are data -/
theorem ltU_dp : ∀ {a b : U}, isV a = true → isV b = true → ltU a b ≠ .unk → dpI a ≠ 0 ∧ dpI b ≠ 0 := by
  intro a b ha hb h
  cases a <;> cases b <;> first
    | exact ⟨Nat.succ_ne_zero _, Nat.succ_ne_zero _⟩
    | exact absurd rfl h
    | exact absurd (show false = true from ha) (by decide)
    | exact absurd (show false = true from hb) (by decide)
    | (rename_i q t; cases q <;> first | exact absurd rfl h | exact ⟨Nat.succ_ne_zero _, Nat.succ_ne_zero _⟩)
    | (rename_i q t z; cases q <;> first | exact absurd rfl h | exact ⟨Nat.succ_ne_zero _, Nat.succ_ne_zero _⟩)
    | (rename_i z q t; cases q <;> first | exact absurd rfl h | exact ⟨Nat.succ_ne_zero _, Nat.succ_ne_zero _⟩)
    | (rename_i q t z w; cases q <;> cases z <;> first | exact absurd rfl h | exact ⟨Nat.succ_ne_zero _, Nat.succ_ne_zero _⟩)
theorem uD_none {x : U} (h : uD x = some .none) : x = .non := by
  cases x with
  | non => rfl
  | str n => have := (uD_str h).1; cases this
  | tup d s => obtain ⟨_, z, _⟩ := uD_tup h; cases z
  | vl d s => obtain ⟨_, z, _⟩ := uD_vl h; cases z
  | _ => cases h
theorem data_shaped {r : Rf} {H : Hp} {u : U} {v : V} (K : PySem.W.Frag) (hv : Rp r H u v) (hd : dpI u ≠ 0) : ∃ d, uD u = some d ∧ Dp K H v d ∧ SeqAt.shaped d = true := by
  obtain ⟨d, e1, c, l, l2⟩ := data_of hv hd
  exact ⟨d, e1, (dp_of u).1 v d e1 hv, shaped_of c (by omega)⟩
theorem ltT_one {a b : U} (h : ltT a b ≠ .unk) : alU a b = true ∧ ltT a b = ltU a b := by
  have e : ltT a b = (Bool.rec .unk (ltU a b) (alU a b) : Tri) := rfl
  cases hb : alU a b with
  | false => rw [e, hb] at h; exact absurd rfl h
  | true => rw [e, hb]; exact ⟨rfl, rfl⟩
theorem ltU_non {a b : U} (h : ltU a b ≠ .unk) : a ≠ .non := fun e => by subst e; exact h rfl
theorem u_lt (hu : X.A.units + 65 < cLine) : CmpOk C X .Lt 2 := by
  intro pins s σ H v1 v2 w1 w2 Q I rx ry ⟨r, h, x, y, u, h', rh, p1, p2, e, q⟩
  obtain ⟨rfl, n, b, rfl, hb⟩ := triR_one (t := ltT x y) e
  obtain ⟨al, en⟩ := ltT_one n
  rw [en] at n hb
  obtain ⟨n1, n2⟩ := ltU_dp (isV_of p1) (isV_of p2) n
  obtain ⟨d, e1, g1, s1⟩ := data_shaped X.K p1 n1
  obtain ⟨d2, e2, g2, s2⟩ := data_shaped X.K p2 n2
  have al2 : PySem.W.alike d d2 = true := ((alU_eq x).1 d y d2 e1 e2).symm.trans al
  have sy := (ltU_ok x).1 d y d2 e1 e2 al2
  obtain ⟨as, r1⟩ := Dp.reads I d v1 w1 g1 rx
  obtain ⟨bs, r2⟩ := Dp.reads I d2 v2 w2 g2 ry
  have dn : d ≠ .none := by
    rintro rfl
    exact ltU_non n (uD_none e1)
  refine PySem.W.rcLt_alike d d2 X.A s w1 w2 as bs r1 r2 al2 dn (SeqAt.room_of_shaped s1 (by omega)) _ _ _ _ ?_
  exact ⟨.bl b, H, I, by rw [← hb _ sy]; rfl, q.here rh rfl⟩
end
end
end VI
namespace VI
open PySem PySem.Spec PyProof.Rows L2
noncomputable section
section
variable {C : Ct} {X : Cx} {k : Nat} {p : Prog} {call : Nat → U → VH → VR} {a b c e : Expr} {es rest : List Expr} {ea eb ec : VE} {pos : Pos}
theorem u_eq (x : XC C X k) : CmpOk C X .Eq 0 := fun pins s σ H v1 v2 w1 w2 Q I rx ry ⟨r, h, a, b, u, h', rh, p1, p2, e, q⟩ => op_eqD x.room.units pins s σ H v1 v2 w1 w2 Q I rx ry (g_eq x.room r H h a b v1 v2 u h' Q rh p1 p2 e q)
theorem u_ne (x : XC C X k) : CmpOk C X .NotEq 1 := fun pins s σ H v1 v2 w1 w2 Q I rx ry ⟨r, h, a, b, u, h', rh, p1, p2, e, q⟩ => op_neD x.room.units pins s σ H v1 v2 w1 w2 Q I rx ry (g_ne x.room r H h a b v1 v2 u h' Q rh p1 p2 e q)
theorem u_isN : CmpOk C X .Is 8 := fun pins s σ H v1 v2 w1 w2 Q I rx ry ⟨r, h, a, b, u, h', rh, p1, p2, e, q⟩ => op_isN pins s σ H v1 v2 w1 w2 Q I rx ry (g_isN r H h a b v1 v2 u h' Q rh p1 p2 e q)
theorem u_notN : CmpOk C X .IsNot 9 := fun pins s σ H v1 v2 w1 w2 Q I rx ry ⟨r, h, a, b, u, h', rh, p1, p2, e, q⟩ => op_notN pins s σ H v1 v2 w1 w2 Q I rx ry (g_notN r H h a b v1 v2 u h' Q rh p1 p2 e q)
theorem u_lt' (x : XC C X k) : CmpOk C X .Lt 2 := u_lt (by have := x.room.un; omega)
/-! ### <=, >, >= of ints and of texts -/
theorem ltA_two {a b : U} {r : Rf} {H : Hp} {v1 v2 : V} (p1 : Rp r H a v1) (p2 : Rp r H b v2) (n : ltA a b ≠ .unk) :
    (∃ i j, v1 = .int i ∧ v2 = .int j ∧ Says (ltA a b) (decide (i < j))) ∨ ∃ i j, v1 = .str i ∧ v2 = .str j ∧ Says (ltA a b) (decide (i.cps.toList < j.cps.toList)) := by
  cases a with
  | int i =>
    cases b with
    | int j => exact .inl ⟨i, j, p1, p2, says_tri (bltI_eq i j)⟩
    | _ => exact absurd rfl n
  | str i =>
    cases b with
    | str j =>
      obtain ⟨x, rfl, h1⟩ := (show ∃ x, v1 = .str x ∧ StrIs i x from p1)
      obtain ⟨y, rfl, h2⟩ := (show ∃ x, v2 = .str x ∧ StrIs j x from p2)
      refine .inr ⟨x, y, rfl, rfl, ?_⟩
      rw [h1.1, h2.1]
      exact says_tri (ltL_str i j)
    | _ => exact absurd rfl n
  | _ => exact absurd rfl n
theorem not_lt_le (i j : Int) : (!decide (j < i)) = decide (i ≤ j) := by
  by_cases h : i ≤ j
  · rw [decide_eq_true h, decide_eq_false (by omega)]; rfl
  · rw [decide_eq_false h, decide_eq_true (by omega)]; rfl
theorem u_le : CmpOk C X .LtE 3 := by
  intro pins s σ H v1 v2 w1 w2 Q I rx ry ⟨r, h, x, y, u, h', rh, p1, p2, e, q⟩
  obtain ⟨rfl, n, b, rfl, hb⟩ := ntriR_one (t := ltA y x) e
  rcases ltA_two p2 p1 n with ⟨i, j, rfl, rfl, sy⟩ | ⟨i, j, rfl, rfl, sy⟩
  · exact op_le pins s σ H _ _ w1 w2 Q I rx ry ⟨j, i, rfl, rfl, by have z := hb _ sy; rw [not_lt_le] at z; show Q (.bl _) H; rw [← z]; exact q.here rh rfl⟩
  · exact op_le_str pins s σ H _ _ w1 w2 Q I rx ry ⟨j, i, rfl, rfl, by rw [← hb _ sy]; exact q.here rh rfl⟩
theorem u_gt : CmpOk C X .Gt 4 := by
  intro pins s σ H v1 v2 w1 w2 Q I rx ry ⟨r, h, x, y, u, h', rh, p1, p2, e, q⟩
  obtain ⟨rfl, n, b, rfl, hb⟩ := triR_one (t := ltA y x) e
  rcases ltA_two p2 p1 n with ⟨i, j, rfl, rfl, sy⟩ | ⟨i, j, rfl, rfl, sy⟩
  · exact op_gt pins s σ H _ _ w1 w2 Q I rx ry ⟨j, i, rfl, rfl, by have z := hb _ sy; show Q (.bl _) H; rw [← z]; exact q.here rh rfl⟩
  · exact op_gt_str pins s σ H _ _ w1 w2 Q I rx ry ⟨j, i, rfl, rfl, by have z := hb _ sy; show Q (.bl _) H; rw [← z]; exact q.here rh rfl⟩
theorem u_ge : CmpOk C X .GtE 5 := by
  intro pins s σ H v1 v2 w1 w2 Q I rx ry ⟨r, h, x, y, u, h', rh, p1, p2, e, q⟩
  obtain ⟨rfl, n, b, rfl, hb⟩ := ntriR_one (t := ltA x y) e
  rcases ltA_two p1 p2 n with ⟨i, j, rfl, rfl, sy⟩ | ⟨i, j, rfl, rfl, sy⟩
  · exact op_ge pins s σ H _ _ w1 w2 Q I rx ry ⟨i, j, rfl, rfl, by have z := hb _ sy; rw [not_lt_le] at z; show Q (.bl _) H; rw [← z]; exact q.here rh rfl⟩
  · exact op_ge_str pins s σ H _ _ w1 w2 Q I rx ry ⟨i, j, rfl, rfl, by have z := hb _ sy; show Q (.bl _) H; rw [← z]; exact q.here rh rfl⟩
/-! ### in -/
theorem inSp_ok : ∀ {s : U} {ds : List PyData} {x : U} {d : PyData}, uL s = some ds → uD x = some d → Says (inSp s x) (ds.any fun z => PyData.eqv z d)
  | .nil, ds, x, d, h, _ => by cases h; exact says_no
  | .cons a r, ds, x, d, h, h2 => by
    obtain ⟨y, ys, rfl, h3, h4⟩ := uL_cons h
    have ih := inSp_ok h4 h2
    have q := (eqU_ok a x).1 y d h3 h2
    show Says (Tri.rec (inSp r x) .yes .unk (eqU a x)) _
    rw [List.any_cons]
    cases he : eqU a x with
    | no => rw [q.2 he, Bool.false_or]; exact ih
    | yes => rw [q.1 he, Bool.true_or]; exact says_yes
    | unk => exact says_unk
  | .non, _, _, _, h, _ => by cases h
  | .bl _, _, _, _, h, _ => by cases h
  | .int _, _, _, _, h, _ => by cases h
  | .str _, _, _, _, h, _ => by cases h
  | .tup _ _, _, _, _, h, _ => by cases h
  | .vl _ _, _, _, _, h, _ => by cases h
  | .vd _, _, _, _, h, _ => by cases h
  | .ref _, _, _, _, h, _ => by cases h
  | .gf _, _, _, _, h, _ => by cases h
  | .clo _ _, _, _, _, h, _ => by cases h
theorem inD_one {d : Nat} {s x : U} (n : inD d s x ≠ .unk) : d ≠ 0 ∧ dpI x ≠ 0 ∧ inD d s x = inSp s x := by
  cases d with
  | zero => exact absurd rfl n
  | succ d =>
    have e : inD (d + 1) s x = (Nat.rec .unk (fun _ _ => inSp s x) (dpI x) : Tri) := rfl
    cases hx : dpI x with
    | zero => rw [e, hx] at n; exact absurd rfl n
    | succ m => rw [e, hx]; exact ⟨Nat.succ_ne_zero _, Nat.succ_ne_zero _, rfl⟩
theorem charsOf_eq (n : Nat) : charsOf n = spL ((charsL n).map fun c => .str (c + 1)) := by
  have : ∀ (f n : Nat) (acc : List Nat), (Nat.rec (motive := fun _ => Nat → U → U) (fun _ a => a) (fun _ ih n a => Bool.rec (ih (Nat.div (Nat.pred n) vB) (.cons (.str (Nat.succ (Nat.mod (Nat.pred n) vB))) a)) a (Nat.beq n 0)) f n (spL (acc.map fun c => .str (c + 1)))) = spL ((charsG f n acc).map fun c => .str (c + 1)) := by
    intro f
    induction f with
    | zero => intro n acc; rfl
    | succ f ih =>
      intro n acc
      by_cases hn : n = 0
      · subst hn; rw [charsG, if_pos rfl]; rfl
      · rw [charsG, if_neg hn]
        have hb : Nat.beq n 0 = false := by cases n with | zero => exact absurd rfl hn | succ m => rfl
        have e := ih ((n - 1) / vB) (((n - 1) % vB) :: acc)
        rw [← e]
        show (Bool.rec _ _ (Nat.beq n 0) : U) = _
        rw [hb]
        rfl
  have e0 : U.nil = spL (([] : List Nat).map fun c => U.str (c + 1)) := rfl
  unfold charsOf
  rw [e0]
  exact this 1000000 n []
theorem charsG_one {m : Nat} (h0 : m ≠ 0) (h1 : m ≤ vB) (f : Nat) : charsG (f + 1 + 1) m [] = [m - 1] := by
  have hv : 0 < vB := by decide
  rw [charsG, if_neg h0]
  have e1 : (m - 1) / vB = 0 := Nat.div_eq_of_lt (by omega)
  have e2 : (m - 1) % vB = m - 1 := Nat.mod_eq_of_lt (by omega)
  rw [e1, e2, charsG, if_pos rfl]
theorem charsL_one {m : Nat} (h0 : m ≠ 0) (h1 : m ≤ vB) : charsL m = [m - 1] := by
  have e : ∀ f, f = 1000000 → charsL m = charsG f m [] := fun f hf => by rw [hf]; rfl
  rw [e (999998 + 1 + 1) (by omega)]
  exact charsG_one h0 h1 999998
theorem mem_pred {m c : Nat} (h0 : m ≠ 0) (h : ¬ c + 1 = m) (l : List Nat) : decide (m - 1 ∈ c :: l) = decide (m - 1 ∈ l) := decide_eq_decide.mpr (by
  rw [List.mem_cons]
  constructor
  · rintro (z | z)
    · omega
    · exact z
  · exact .inr)
theorem inSp_chars {m : Nat} (h0 : m ≠ 0) : ∀ l : List Nat, inSp (spL (l.map fun c => .str (c + 1))) (.str m) = tri (decide (m - 1 ∈ l))
  | [] => by rw [decide_eq_false (by simp)]; rfl
  | c :: l => by
    have ih := inSp_chars h0 l
    show (Tri.rec (inSp _ _) .yes .unk (tri (Nat.beq (c + 1) m)) : Tri) = _
    rw [ih]
    by_cases h : c + 1 = m
    · rw [nat_beq_iff.mpr h, decide_eq_true (List.mem_cons.mpr (.inl (by omega)))]; rfl
    · have hb : Nat.beq (c + 1) m = false := by
        cases hb : Nat.beq (c + 1) m with
        | false => rfl
        | true => exact absurd (nat_beq_iff.mp hb) h
      rw [hb, mem_pred h0 h]; rfl
/-- what in tells -/
inductive InIs (C : Ct) (K : PySem.W.Frag) (H : Hp) (v1 v2 : V) (t : Tri) : Prop where
  | txt (c : Nat) (z : Str) (h1 : v1 = .str ⟨#[c]⟩) (h2 : v2 = .str z) (h : Says t (decide (c ∈ z.cps.toList)))
  | lst (d : PyData) (ds : List PyData) (h1 : Dp K H v1 d) (h2 : Dp K H v2 (.list ds)) (s1 : SeqAt.shaped d = true) (s2 : SeqAt.shaped (.list ds) = true) (h : Says t (ds.any fun z => PyData.eqv z d))
  | tup (d : PyData) (ds : List PyData) (h1 : Dp K H v1 d) (h2 : Dp K H v2 (.tuple ds)) (s1 : SeqAt.shaped d = true) (s2 : SeqAt.shaped (.tuple ds) = true) (h : Says t (ds.any fun z => PyData.eqv z d))
theorem shaped_list {d : Nat} {s : U} {ds : List PyData} (hd : Dep d s) (n : d ≠ 0) (e : uL s = some ds) : PyData.canLayAll0 ds = true ∧ PyData.depthAll ds + 1 ≤ 64 := by
  obtain ⟨ds', e', c, l, l2⟩ := hd n
  rw [e] at e'; cases e'
  exact ⟨c, by omega⟩
end
end
end VI
namespace VI
open PySem PySem.Spec PyProof.Rows L2
noncomputable section
/-! ### statements -/
/-- what a run of statements comes to, as a reading -/
def Out (C : Ct) (r : Rf) (H : Hp) (D : Ends) : VRS → Prop
  | .nx s' h' => ∀ r' H' σ', r.Le r' → Kp r H r' H' → RH C r' H' h' → RS r' H' s' σ' → D.nx σ' H'
  | .bk s' h' => ∀ r' H' σ', r.Le r' → Kp r H r' H' → RH C r' H' h' → RS r' H' s' σ' → D.bk σ' H'
  | .ct s' h' => ∀ r' H' σ', r.Le r' → Kp r H r' H' → RH C r' H' h' → RS r' H' s' σ' → D.ct σ' H'
  | .rt u h' => ∀ r' H' v, r.Le r' → Kp r H r' H' → RH C r' H' h' → Rp r' H' u v → D.rt v H'
  | .bad _ => False
def tSt (C : Ct) (f : SemS) : TS := fun D σ H => ∃ r h s, RH C r H h ∧ RS r H s σ ∧ Out C r H D (f s h)
def SS (C : Ct) (X : Cx) (st : Stmt) (f : SemS) : Prop := PS X st (tSt C f)
def SSs (C : Ct) (X : Cx) (sts : List Stmt) (f : SemS) : Prop := PSs X sts (tSt C f)
theorem _root_.L2.PS.weak {X : Cx} {e : Stmt} {t t' : TS} (h : PS X e t) (w : ∀ D σ H, t' D σ H → t D σ H) : PS X e t' := ⟨fun pins s σ H D I q => h.run pins s σ H D I (w D σ H q)⟩
theorem _root_.L2.PSs.weak {X : Cx} {e : List Stmt} {t t' : TS} (h : PSs X e t) (w : ∀ D σ H, t' D σ H → t D σ H) : PSs X e t' := ⟨fun pins s σ H D I q => h.run pins s σ H D I (w D σ H q)⟩
theorem Out.mono {C : Ct} {r r1 : Rf} {H H1 : Hp} {D : Ends} {x : VRS} (l : r.Le r1) (k : Kp r H r1 H1) (o : Out C r H D x) : Out C r1 H1 D x := by
  cases x with
  | nx s h => exact fun r' H' σ' l' k' => o r' H' σ' (l.trans l') (k.trans k')
  | bk s h => exact fun r' H' σ' l' k' => o r' H' σ' (l.trans l') (k.trans k')
  | ct s h => exact fun r' H' σ' l' k' => o r' H' σ' (l.trans l') (k.trans k')
  | rt u h => exact fun r' H' v l' k' => o r' H' v (l.trans l') (k.trans k')
  | bad n => exact o
/-- the value ahead -/
theorem ofR_out {C : Ct} {r : Rf} {H : Hp} {D : Ends} {x : VR} {f : U → VH → VRS} (o : Out C r H D (VRS.ofR x f)) : ∃ u h, x = .one u h ∧ Out C r H D (f u h) := by
  cases x with
  | one u h => exact ⟨u, h, rfl, o⟩
  | bad n => exact False.elim o
section
variable {C : Ct} {X : Cx} {k : Nat} {p : Prog} {call : Nat → U → VH → VR} {w : Nat} {a b c e o i tg : Expr} {es rest : List Expr} {ea eb ec eo ei : VE} {pos : Pos} {st : Stmt} {sts sts2 : List Stmt} {sa sb : VSt} {t : VT}
abbrev SX (C : Ct) (X : Cx) (p : Prog) (call : Nat → U → VH → VR) (w : Nat) (st : Stmt) (s : VSt) : Prop := SS C X st (ex p call w s)
abbrev SXs (C : Ct) (X : Cx) (p : Prog) (call : Nat → U → VH → VR) (w : Nat) (st : List Stmt) (s : VSt) : Prop := SSs C X st (ex p call w s)
theorem q_nil : SXs C X p call w [] .nil := pss_nil.weak fun D σ H ⟨r, h, s, rh, rs, o⟩ => o r H σ (Rf.Le.refl r) (Kp.refl H) rh rs
theorem q_cons (h1 : SX C X p call w st sa) (h2 : SXs C X p call w sts sb) : SXs C X p call w (st :: sts) (.cons sa sb) := by
  refine (pss_cons h1 h2).weak fun D σ H ⟨r, h, s, rh, rs, o⟩ => ?_
  refine ⟨r, h, s, rh, rs, ?_⟩
  have o : Out C r H D (VRS.rec (fun σ h => ex p call w sb σ h) .rt .bk .ct .bad (ex p call w sa s h)) := o
  cases hx : ex p call w sa s h with
  | nx s' h' =>
    rw [hx] at o
    exact fun r' H' σ' l k rh' rs' => ⟨r', h', s', rh', rs', o.mono l k⟩
  | bk s' h' => rw [hx] at o; exact o
  | ct s' h' => rw [hx] at o; exact o
  | rt u h' => rw [hx] at o; exact o
  | bad n => rw [hx] at o; exact o
theorem q_ret (ha : SE C X a (ev p call ea)) : SX C X p call w (.Return (some a) pos) (.ret ea) := by
  refine (ps_ret (ha .nil)).weak fun D σ H ⟨r, h, s, rh, rs, o⟩ => ?_
  obtain ⟨u, h1, e, o⟩ := ofR_out o
  exact ⟨r, h, s, u, h1, rh, rs, e, o⟩
theorem q_retN : SX C X p call w (.Return none pos) (.ret (.cst .non)) :=
  ps_retN.weak fun D σ H ⟨r, h, s, rh, rs, o⟩ => o r H .non (Rf.Le.refl r) (Kp.refl H) rh rfl
theorem q_pass : SX C X p call w (.Pass pos) .pass := ps_pass.weak fun D σ H ⟨r, h, s, rh, rs, o⟩ => o r H σ (Rf.Le.refl r) (Kp.refl H) rh rs
theorem q_brk : SX C X p call w (.Break pos) .brk := ps_break.weak fun D σ H ⟨r, h, s, rh, rs, o⟩ => o r H σ (Rf.Le.refl r) (Kp.refl H) rh rs
theorem q_cnt : SX C X p call w (.Continue pos) .cnt := ps_continue.weak fun D σ H ⟨r, h, s, rh, rs, o⟩ => o r H σ (Rf.Le.refl r) (Kp.refl H) rh rs
theorem q_raise : SX C X p call w st .raise := ps_never.weak fun D σ H ⟨r, h, s, rh, rs, o⟩ => o
theorem q_ex (ha : SE C X a (ev p call ea)) (hs : swapsWith a none pos.line X.env = pure false := by rfl) : SX C X p call w (.Expr a pos) (.ex ea) := by
  refine (ps_expr (ha .nil) hs).weak fun D σ H ⟨r, h, s, rh, rs, o⟩ => ?_
  obtain ⟨u, h1, e, o⟩ := ofR_out o
  exact ⟨r, h, s, u, h1, rh, rs, e, fun r' H' v l k rh' _ => o r' H' σ l k rh' (rs.mono l k)⟩
theorem q_if (hc : SB C X c (ev p call ec)) (ha : SXs C X p call w sts sa) (hb : SXs C X p call w sts2 sb) : SX C X p call w (.If c sts sts2 pos) (.iff ec sa sb) := by
  refine (ps_if (hc .nil) ha hb).weak fun D σ H ⟨r, h, s, rh, rs, o⟩ => ?_
  obtain ⟨u, h1, e, o⟩ := ofR_out o
  rw [true_eq] at o
  cases hx : truth u h1 with
  | none => rw [hx] at o; exact False.elim o
  | some d =>
    rw [hx] at o
    refine ⟨r, h, s, u, h1, d, rh, rs, e, hx, fun r1 H1 l k rh1 => ?_⟩
    cases d with
    | true => rw [if_pos rfl]; exact ⟨r1, h1, s, rh1, rs.mono l k, Out.mono l k o⟩
    | false => rw [if_neg (by decide)]; exact ⟨r1, h1, s, rh1, rs.mono l k, Out.mono l k o⟩
/-! ### targets -/
theorem asgT_eq {α : Type} (z : α) : ∀ (t : VT) (u : U) (s : VS) (h : VH) (f : VS → α), asgT z t u s h f = match asgT none t u s h some with | some s' => f s' | none => z
  | .var i, u, s, h, f => rfl
  | .tup l, u, s, h, f => by
    cases u with
    | tup d q => exact asgT_eq z l q s h f
    | vl d q => exact asgT_eq z l q s h f
    | _ => rfl
  | .nil, u, s, h, f => by cases u <;> rfl
  | .cons a b, u, s, h, f => by
    cases u with
    | cons x r =>
      show asgT z a x s h (fun σ => asgT z b r σ h f) = match asgT none a x s h (fun σ => asgT none b r σ h some) with | some s' => f s' | none => z
      rw [asgT_eq z a x s h, asgT_eq none a x s h (fun σ => asgT none b r σ h some)]
      cases asgT none a x s h some with
      | none => rfl
      | some s' => exact asgT_eq z b r s' h f
    | _ => rfl
/-- a target that is set as its evaluation says -/
def VT.slots : VT → List Nat
  | .var i => [i]
  | .tup l => l.slots
  | .nil => []
  | .cons a b => a.slots ++ b.slots
/-- y: also a tuple that a loop gave out just now -/
def RpB (y : Bool) (r : Rf) (H : Hp) (u : U) (v : V) : Prop := Rp r H u v ∨ (y = true ∧ ∃ d s T xs, u = .tup d s ∧ v = .ref T ∧ H T = some (.tup xs) ∧ RpL r H s xs)
theorem RpB.no {r : Rf} {H : Hp} {u : U} {v : V} (h : RpB false r H u v) : Rp r H u v := h.resolve_right fun z => by cases z.1
/-- only the target's slots are other -/
def Only (l : List Nat) (σ σ' : L2.St) : Prop := ∀ vs : List Nat, (∀ i ∈ l, i ∈ vs) → wipe σ' vs = wipe σ vs
def tSG (C : Ct) (y : Bool) (t : VT) : TG := fun v σ H Q => ∃ r h s u s', RH C r H h ∧ RS r H s σ ∧ RpB y r H u v ∧ asgT none t u s h some = some s' ∧ ∀ σ', RS r H s' σ' → Only t.slots σ σ' → Q σ' H
def tSGs (C : Ct) (t : VT) : TGs := fun vs σ H Q => ∃ r h s u s', RH C r H h ∧ RS r H s σ ∧ RpL r H u vs ∧ asgT none t u s h some = some s' ∧ ∀ σ', RS r H s' σ' → Only t.slots σ σ' → Q σ' H
def SG (C : Ct) (X : Cx) (y : Bool) (tg : Expr) (t : VT) : Prop := PG X tg (tSG C y t)
def SGs (C : Ct) (X : Cx) (tgs : List Expr) (t : VT) : Prop := PGs X tgs (tSGs C t)
theorem _root_.L2.PG.weak {X : Cx} {e : Expr} {t t' : TG} (h : PG X e t) (w : ∀ v σ H Q, t' v σ H Q → t v σ H Q) : PG X e t' := ⟨fun pins s σ H v u Q I r q => h.run pins s σ H v u Q I r (w v σ H Q q)⟩
theorem _root_.L2.PGs.weak {X : Cx} {e : List Expr} {t t' : TGs} (h : PGs X e t) (w : ∀ v σ H Q, t' v σ H Q → t v σ H Q) : PGs X e t' := ⟨fun pins s σ H v u Q I r q => h.run pins s σ H v u Q I r (w v σ H Q q)⟩
theorem wipe_set_not {σ : L2.St} {i : Nat} {x : Option V} : ∀ {vs : List Nat}, i ∉ vs → wipe (σ.set i x) vs = (wipe σ vs).set i x
  | [], _ => rfl
  | v :: vs, h => by
    rw [List.mem_cons, not_or] at h
    show (wipe (σ.set i x) vs).set v none = ((wipe σ vs).set v none).set i x
    rw [wipe_set_not h.2, List.set_comm _ _ h.1]
theorem wipe_set_mem {σ : L2.St} {i : Nat} {x : Option V} : ∀ {vs : List Nat}, i ∈ vs → wipe (σ.set i x) vs = wipe σ vs
  | v :: vs, h => by
    show (wipe (σ.set i x) vs).set v none = (wipe σ vs).set v none
    by_cases hi : i ∈ vs
    · rw [wipe_set_mem hi]
    · have e : i = v := by
        rcases List.mem_cons.mp h with e | e
        · exact e
        · exact absurd e hi
      subst e
      rw [wipe_set_not hi, List.set_set]
theorem only_set (σ : L2.St) (i : Nat) (x : Option V) : Only [i] σ (σ.set i x) := fun vs hv => wipe_set_mem (hv i (List.mem_singleton.mpr rfl))
theorem RS.unset {r : Rf} {H : Hp} : ∀ {s : VS} {σ : L2.St} (i : Nat) (x : Option V), RS r H s σ → RS r H (s.unset i) (σ.set i x) ∧ RS r H (s.unset i) σ
  | .nil, [], i, x, h => ⟨h, h⟩
  | .cons _ t, some _ :: σ, 0, x, ⟨_, h2⟩ => ⟨h2, h2⟩
  | .cons _ t, some _ :: σ, i + 1, x, ⟨h1, h2⟩ => ⟨⟨h1, (RS.unset i x h2).1⟩, ⟨h1, (RS.unset i x h2).2⟩⟩
  | .un t, _ :: σ, 0, x, h => ⟨h, h⟩
  | .un t, _ :: σ, i + 1, x, h => ⟨(RS.unset (s := t) (σ := σ) i x h).1, (RS.unset (s := t) (σ := σ) i x h).2⟩
  | .nil, _ :: _, _, _, h => False.elim h
  | .cons _ _, [], _, _, h => False.elim h
  | .cons _ _, none :: _, _, _, h => False.elim h
  | .un _, [], _, _, h => False.elim h
def unsetL (s : VS) : List Nat → VS
  | [] => s
  | i :: l => (unsetL s l).unset i
theorem RS.wipe {r : Rf} {H : Hp} {s : VS} {σ : L2.St} (h : RS r H s σ) : ∀ vs : List Nat, RS r H (unsetL s vs) (L2.wipe σ vs) ∧ RS r H (unsetL s vs) σ
  | [] => ⟨h, h⟩
  | i :: vs => by
    obtain ⟨h1, h2⟩ := RS.wipe h vs
    exact ⟨(h1.unset i none).1, (h2.unset i none).2⟩
theorem g_var {i : Nat} {x : Str} (hN : X.N.Nodup) (hi : X.N[i]? = some x) (hx : Loc X.env.scope x) (hf : X.fn x = true ∨ X.env.scope.names.lookup x = some .local := by first | exact .inl rfl | exact .inr rfl | assumption) : SG C X false (.Name x pos) (.var i) :=
  (pg_name hN hi hx hf).weak fun v σ H Q ⟨r, h, s, u, s', rh, rs, hv, e, q⟩ => by
    cases (show some (s.set i u) = some s' from e)
    exact q _ (rs.set i hv.no) (only_set σ i (some v))
theorem g_nil : SGs C X [] .nil := pgs_nil.weak fun vs σ H Q ⟨r, h, s, u, s', rh, rs, hv, e, q⟩ => by
  cases u with
  | nil => cases (show some s = some s' from e); exact ⟨hv, q σ rs fun _ _ => rfl⟩
  | cons a b => cases e
  | _ => exact False.elim hv
theorem g_cons {t2 : VT} {tgs : List Expr} (h1 : SG C X false tg t) (h2 : SGs C X tgs t2) (hs : (assignEach (tg :: tgs) X.env).map (·.2) = assign tg X.env :: (assignEach tgs X.env).map (·.2) := by rfl) : SGs C X (tg :: tgs) (.cons t t2) := by
  refine (pgs_cons h1 h2 hs).weak fun vs σ H Q ⟨r, h, s, u, s', rh, rs, hv, e, q⟩ => ?_
  cases u with
  | cons x y =>
    obtain ⟨v, vr, rfl, p1, p2⟩ := hv
    have e : asgT none t x s h (fun σ => asgT none t2 y σ h some) = some s' := e
    rw [asgT_eq] at e
    cases h1 : asgT none t x s h some with
    | none => rw [h1] at e; cases e
    | some s1 =>
      rw [h1] at e
      exact ⟨v, vr, rfl, r, h, s, x, s1, rh, rs, .inl p1, h1, fun σ1 rs1 o1 => ⟨r, h, s1, y, s', rh, rs1, p2, e, fun σ2 rs2 o2 => q σ2 rs2 fun vs hv => (o2 vs fun i hi => hv i (List.mem_append_right _ hi)).trans (o1 vs fun i hi => hv i (List.mem_append_left _ hi))⟩⟩
  | nil => cases e
  | _ => exact False.elim hv
/-- (a, b, ..) = a tuple or a list of that length -/
theorem g_tup {y0 : Bool} {l : VT} {tgs : List Expr} {k n : Nat} (hc : X.calm = true) (h1 : SGs C X tgs l) (hl : ∀ u s h s', asgT none l u s h some = some s' → u.len = n)
    (hn : (assignEach tgs X.env).length = n := by rfl) (hst : (assignEach tgs X.env).findIdx? (·.1) = none := by rfl) : SG C X y0 (.Tuple tgs k pos) (.tup l) := by
  have P1 := pg_tup (pos := pos) (k := k) hc h1 hn hst
  have P2 := pg_unl (pos := pos) (k := k) hc h1 hn hst
  refine ⟨fun pins s0 σ H v w Q I rv ⟨r, h, s, u, s', rh, rs, hv, e, q⟩ => ?_⟩
  rcases hv with hv | ⟨_, d, y, T, xs, rfl, rfl, g1, g2⟩
  case inr => exact P1.run pins s0 σ H _ w Q I rv ⟨T, xs, rfl, SqT.of g1, g2.length.trans (hl y s h s' e), r, h, s, y, s', rh, rs, g2, e, q⟩
  cases u with
  | tup d y =>
    obtain ⟨a, o, xs, rfl, g1, g2⟩ := tup_rd hv
    exact P1.run pins s0 σ H _ w Q I rv ⟨a, xs, rfl, SqT.ofF g1.1, g2.length.trans (hl y s h s' e), r, h, s, y, s', rh, rs, g2, e, q⟩
  | vl d y =>
    obtain ⟨a, xs, rfl, g1, g2⟩ := list_rd (s := y) rh hv (.inl ⟨d, rfl⟩)
    exact P2.run pins s0 σ H _ w Q I rv ⟨a, xs, rfl, .inl g1, g2.length.trans (hl y s h s' e), r, h, s, y, s', rh, rs, g2, e, q⟩
  | _ => cases e
theorem asg_len0 : ∀ u s h s', asgT none (.nil : VT) u s h some = some s' → u.len = 0 := fun u s h s' e => by
  cases u with
  | cons a b => cases e
  | _ => rfl
theorem asg_lenS {t l : VT} {n : Nat} (hl : ∀ u s h s', asgT none l u s h some = some s' → u.len = n) : ∀ u s h s', asgT none (.cons t l) u s h some = some s' → u.len = n + 1 := fun u s h s' e => by
  cases u with
  | cons x y =>
    have e : asgT none t x s h (fun σ => asgT none l y σ h some) = some s' := e
    rw [asgT_eq] at e
    cases h1 : asgT none t x s h some with
    | none => rw [h1] at e; cases e
    | some s1 =>
      rw [h1] at e
      show y.len + 1 = _
      rw [hl y s1 h s' e]
  | _ => cases e
theorem q_asg (ha : SE C X a (ev p call ea)) (hg : SG C X false tg t) (hs : swapsWithSole [tg] a pos.line X.env = pure false := by rfl) (hw : swappedStores [tg] a X.env = pure none := by rfl)
    (h1 : (assignEach [tg] X.env).map (·.2) = [assign tg X.env] := by rfl) : SX C X p call w (.Assign [tg] a pos) (.asg t ea) := by
  refine (ps_asg (ha .nil) hg hs hw h1).weak fun D σ H ⟨r, h, s, rh, rs, o⟩ => ?_
  obtain ⟨u, h1, e, o⟩ := ofR_out o
  rw [asgT_eq] at o
  cases hx : asgT none t u s h1 some with
  | none => rw [hx] at o; exact False.elim o
  | some s' =>
    rw [hx] at o
    refine ⟨r, h, s, u, h1, rh, rs, e, fun r1 H1 v l k rh1 p1 => ⟨r1, h1, s, u, s', rh1, rs.mono l k, .inl p1, hx, fun σ' rs' _ => ?_⟩⟩
    exact o r1 H1 σ' l k rh1 rs'
/-- name = value, where the expression may swap -/
theorem q_set {i : Nat} {x : Str} {pos' : Pos} (hN : X.N.Nodup) (hi : X.N[i]? = some x) (hx : Loc X.env.scope x) (ha : SE C X a (ev p call ea)) (hs : swapsWith a (some (.Name x pos')) pos.line X.env = pure false := by rfl) (hf : X.fn x = true ∨ X.env.scope.names.lookup x = some .local := by first | exact .inl rfl | exact .inr rfl | assumption) :
    SX C X p call w (.Assign [.Name x pos'] a pos) (.asg (.var i) ea) := by
  refine (ps_set hN hi hx (ha .nil) hs hf).weak fun D σ H ⟨r, h, s, rh, rs, o⟩ => ?_
  obtain ⟨u, h1, e, o⟩ := ofR_out o
  refine ⟨r, h, s, u, h1, rh, rs, e, fun r1 H1 v l k rh1 p1 => ?_⟩
  exact o r1 H1 _ l k rh1 ((rs.mono l k).set i p1)
end
end
end VI
namespace VI
open PySem PySem.Spec PyProof.Rows L2
noncomputable section
/-! ### calls by judgement -/
/-- what a call with these values comes to -/
def rC (C : Ct) (g : U → VH → VR) : List V → Hp → VK → Prop := fun vs H Q => ∃ r h s u h', RH C r H h ∧ RpL r H s vs ∧ g s h = .one u h' ∧ Fo C r H u h' Q
theorem tCBU {C : Ct} {fa : VS → VH → VR} {g : U → VH → VR} (σ : L2.St) (H : Hp) (Q : VK) (t : tS C (fun s h => VR.bind (fa s h) fun x h => g x h) σ H Q) : tCB (rC C g) (tSL C fa) σ H Q := by
  obtain ⟨r, h, s, u, h', rh, rs, e, q⟩ := t
  obtain ⟨x, h1, e1, e⟩ := bind_one e
  exact ⟨r, h, s, x, h1, rh, rs, e1, fun r1 H1 vs l1 k1 rh1 p1 => ⟨r1, h1, x, u, h', rh1, p1, e, fun r2 H2 v l2 k2 rh2 p2 => q r2 H2 v (l1.trans l2) (k1.trans k2) rh2 p2⟩⟩
section
variable {C : Ct} {X : Cx} {k : Nat} {p : Prog} {call : Nat → U → VH → VR} {w : Nat} {a b c e o i tg : Expr} {es rest : List Expr} {ea eb ec eo ei el : VE} {pos pp apos : Pos} {x f m : Str} {id T : String}
/-- a built-in def -/
theorem r_bc {n : Nat} (hc : CallR X (.builtin id) (rC C (bcU (callV call) n))) (hg : Gl X x) (hm : X.mg x = none) (hv : bootBuiltins x = some (.builtin id)) (ha : SL C X (e :: es) (ev p call el)) (hn : x ≠ "__name__" := by decide) (hdb : (x == ("__debug__" : Str)) = false := by decide)
    (he : starEach (e :: es) X.env = (false, eval e X.env) :: starEach es X.env := by rfl) (hpl : (backTo pos (starEach es X.env)).any (·.1) = false := by rfl) : SE C X (.Call (.Name x pp) (e :: es) [] pos) (ev p call (.bc n el)) := fun c =>
  (pe_callB hc hg hm hv (ha c) hn hdb he hpl).weak (tCBU (g := bcU (callV call) n))
/-- a built-in type -/
theorem r_bt {n : Nat} (hc : CallR X (.type T) (rC C (bcU (callV call) n))) (hg : Gl X x) (hm : X.mg x = none) (hv : bootBuiltins x = some (.type T)) (ha : SL C X (e :: es) (ev p call el)) (hn : x ≠ "__name__" := by decide) (hdb : (x == ("__debug__" : Str)) = false := by decide)
    (he : starEach (e :: es) X.env = (false, eval e X.env) :: starEach es X.env := by rfl) (hpl : (backTo pos (starEach es X.env)).any (·.1) = false := by rfl) : SE C X (.Call (.Name x pp) (e :: es) [] pos) (ev p call (.bc n el)) := fun c =>
  (pe_callTy hc hg hm hv (ha c) hn hdb he hpl).weak (tCBU (g := bcU (callV call) n))
/-- a def of the module -/
theorem r_call {n : Nat} {f : Addr} (hc : CallR X (.ref f) (rC C (call n))) (hg : Gl X x) (hm : X.mg x = some (.ref f)) (hk : PySem.W.keepIn X.K (.ref f) = true) (ha : SL C X (e :: es) (ev p call el)) (hdb : (x == ("__debug__" : Str)) = false := by decide)
    (he : starEach (e :: es) X.env = (false, eval e X.env) :: starEach es X.env := by rfl) (hpl : (backTo pos (starEach es X.env)).any (·.1) = false := by rfl) : SE C X (.Call (.Name x pp) (e :: es) [] pos) (ev p call (.call n el)) := fun c => by
  have P : PE X (.Call (.Name x pp) (e :: es) [] pos) (tCB (rC C (call n)) (tSL C (ev p call el c))) := by
    refine ⟨fun pins s σ H Q I h => ?_⟩
    refine wpAny_Call_Name_kw (ld_glob I hg hm ?_ hdb)
    exact PySem.W.callWith_K (h₀ := X.base) I.ok.mod.kin hk (thn ((ha c).run pos pins s σ H _ I h) fun us s1 ⟨vs, H1, I1, r, q⟩ => ⟨I1.kIn, hc pins s1 σ H1 vs us Q I1 r q⟩) he hpl
  exact P.weak (tCBU (g := call n))
theorem r_call0 {n : Nat} {f : Addr} (hc : CallR X (.ref f) (rC C (call n))) (hg : Gl X x) (hm : X.mg x = some (.ref f)) (hk : PySem.W.keepIn X.K (.ref f) = true) (hdb : (x == ("__debug__" : Str)) = false := by decide) : SE C X (.Call (.Name x pp) [] [] pos) (ev p call (.call n .nil)) := fun c => by
  have P : PE X (.Call (.Name x pp) [] [] pos) (fun σ H Q => rC C (call n) [] H Q) := by
    refine ⟨fun pins s σ H Q I h => ?_⟩
    refine wpAny_Call_Name_kw (ld_glob I hg hm ?_ hdb)
    exact PySem.W.callWith_K0 I.kIn hk (hc pins s σ H [] [] Q I .nil h)
  refine P.weak fun σ H Q ⟨r, h, s, u, h', rh, rs, e, q⟩ => ?_
  exact ⟨r, h, .nil, u, h', rh, rfl, e, q⟩
/-- a def, from its promise -/
def spU (C : Ct) (n : Nat) (g : U → VH → VR) : Sp := fun vs H Q _ => vs.length = n ∧ rC C g vs H Q
def noX : XK := fun _ _ _ => False
theorem call_fn {CX : CXT} {f : Addr} {fd : FuncData} {ps : List Str} {n : Nat} {g : U → VH → VR} (F : FnOk X.prog X.w X.K X.mg X.base CX k f fd ps (spU C n g)) (hr : Room k X.A) (hb : Binds X.K fd ps []) (hx : Passes CX X noX)
    (hl : ∀ s h u h', g s h = .one u h' → s.len = n) : CallR X (.ref f) (rC C g) := fun pins s σ H vs us Q I r q => by
  obtain ⟨r0, h, s0, u, h', rh, hs, e, fo⟩ := q
  refine run_fn F hr hb .nil hx I r (E := noX) ?_
  rw [List.append_nil]
  exact ⟨hs.length.trans (hl s0 h u h' e), r0, h, s0, u, h', rh, hs, e, fo⟩
end
/-! ### fields -/
theorem lookup_str {f : Str} {v : V} {n : Nat} {y : Str} (hy : StrIs n y) {m : Nat} (hf : StrIs m f) : Nat.beq n m = decide (y = f) := by
  cases hb : Nat.beq n m with
  | true =>
    have e := nat_beq_iff.mp hb
    subst e
    rw [decide_eq_true (hy.1.trans hf.1.symm)]
  | false =>
    symm
    refine decide_eq_false fun z => nat_beq_false hb ?_
    exact dec_inj hy.2.1 hf.2.1 (hy.1.symm.trans (z.trans hf.1))
/-- two by two -/
theorem pr_nil {α : Type} (z : α) (f : U → U → U → α → α) : U.pr z f .nil = z := rfl
theorem pr_cons2 {α : Type} (z : α) (f : U → U → U → α → α) (k v r : U) : U.pr z f (.cons k (.cons v r)) = f k v r (U.pr z f r) := rfl
section
variable {r : Rf} {H : Hp}
theorem flat_cons {n : Str} {v : V} {fl : List (Str × V)} : flatF ((n, v) :: fl) = .str n :: v :: flatF fl := rfl
theorem rpl_flat {fs : U} {n : Str} {v : V} {fl : List (Str × V)} (h : RpL r H fs (flatF ((n, v) :: fl))) : ∃ m u t, fs = .cons (.str m) (.cons u t) ∧ StrIs m n ∧ Rp r H u v ∧ RpL r H t (flatF fl) := by
  rw [flat_cons] at h
  cases fs with
  | cons a b =>
    obtain ⟨x, xs, e, h1, h2⟩ := h
    cases e
    cases b with
    | cons c t =>
      obtain ⟨x', xs', e', h3, h4⟩ := h2
      cases e'
      cases a with
      | str m =>
        obtain ⟨y, e, hy⟩ := h1
        cases e
        exact ⟨m, c, t, rfl, hy, h3, h4⟩
      | tup d s => obtain ⟨_, _, _, e, _⟩ := h1; cases e
      | vl d s => obtain ⟨_, _, _, e, _⟩ := h1; cases e
      | ref k => obtain ⟨_, e, _⟩ := h1; cases e
      | gf k => obtain ⟨_, e, _⟩ := h1; cases e
      | nil => exact False.elim h1
      | cons _ _ => exact False.elim h1
      | vd _ => obtain ⟨_, _, e, _⟩ := h1; cases e
      | clo _ _ => exact False.elim h1
      | non => cases (show V.str n = V.non from h1)
      | bl b => cases (show V.str n = V.bl b from h1)
      | int i => cases (show V.str n = V.int i from h1)
    | nil => cases (show v :: flatF fl = [] from h2)
    | _ => exact False.elim h2
  | nil => cases (show V.str n :: v :: flatF fl = [] from h)
  | _ => exact False.elim h
theorem rpl_flat0 {fs : U} (h : RpL r H fs (flatF [])) : fs = .nil := spine_nil h
theorem fget_eq {α : Type} {m f : Nat} {u t : U} (z : α) (g : U → α) : fget (.cons (.str m) (.cons u t)) f z g = (Bool.rec (fget t f z g) (g u) (Nat.beq m f) : α) := rfl
theorem fget_ok {f : Nat} {x : Str} (hf : StrIs f x) : ∀ {fl : List (Str × V)} {fs : U}, RpL r H fs (flatF fl) → ∀ {w : VR} {g : U → VR} {n : Nat}, fget fs f (.bad n) g = w → (∃ n, w = .bad n) ∨ ∃ u v, g u = w ∧ fl.lookup x = some v ∧ Rp r H u v
  | [], fs, h, w, g, n, e => by
    rw [rpl_flat0 h] at e
    exact .inl ⟨n, e.symm⟩
  | (y, v) :: fl, fs, h, w, g, n, e => by
    obtain ⟨m, u, t, rfl, hy, hu, ht⟩ := rpl_flat h
    rw [fget_eq, lookup_str (v := v) hy hf] at e
    by_cases hyx : y = x
    · rw [decide_eq_true hyx] at e
      refine .inr ⟨u, v, e, ?_, hu⟩
      rw [hyx, List.lookup_cons_self]
    · rw [decide_eq_false hyx] at e
      rcases fget_ok hf ht e with q | ⟨u', v', e1, e2, e3⟩
      · exact .inl q
      · refine .inr ⟨u', v', e1, ?_, e3⟩
        have hb : (x == y) = false := beq_eq_false_iff_ne.mpr fun z => hyx z.symm
        rw [List.lookup_cons, hb]
        exact e2
theorem fput_eq {m f : Nat} {u t y : U} : fput (.cons (.str m) (.cons u t)) f y = (Bool.rec (.cons (.str m) (.cons u (fput t f y))) (.cons (.str m) (.cons y t)) (Nat.beq m f) : U) := rfl
theorem fput_ok {f : Nat} {x : Str} (hf : StrIs f x) {y : U} {v : V} (hv : Rp r H y v) : ∀ {fl : List (Str × V)} {fs : U}, RpL r H fs (flatF fl) → RpL r H (fput fs f y) (flatF (putF x v fl))
  | [], fs, h => by
    rw [rpl_flat0 h]
    exact ⟨.str x, [v], rfl, ⟨x, rfl, hf⟩, v, [], rfl, hv, rfl⟩
  | (z, v') :: fl, fs, h => by
    obtain ⟨m, u, t, rfl, hy, hu, ht⟩ := rpl_flat h
    rw [fput_eq, lookup_str (v := v') hy hf]
    by_cases hyx : z = x
    · rw [decide_eq_true hyx]
      show RpL r H _ (flatF (if z = x then (z, v) :: fl else _))
      rw [if_pos hyx]
      exact ⟨.str z, _, rfl, ⟨z, rfl, hy⟩, v, _, rfl, hv, ht⟩
    · rw [decide_eq_false hyx]
      show RpL r H _ (flatF (if z = x then _ else (z, v') :: putF x v fl))
      rw [if_neg hyx]
      exact ⟨.str z, _, rfl, ⟨z, rfl, hy⟩, v', _, rfl, hu, fput_ok hf hv ht⟩
theorem keys_put_nodup (x : Str) (v : V) : ∀ fl : List (Str × V), (fl.map (·.1)).Nodup → ((putF x v fl).map (·.1)).Nodup ∧ ∀ y ∈ (putF x v fl).map (·.1), y = x ∨ y ∈ fl.map (·.1)
  | [], _ => ⟨by simp [putF], fun y h => by simp [putF] at h; exact .inl h⟩
  | (z, v') :: fl, h => by
    rw [List.map_cons, List.nodup_cons] at h
    obtain ⟨i1, i2⟩ := keys_put_nodup x v fl h.2
    rw [show putF x v ((z, v') :: fl) = (if z = x then (z, v) :: fl else (z, v') :: putF x v fl) from rfl]
    by_cases hz : z = x
    · rw [if_pos hz]
      refine ⟨?_, fun y hy => .inr ?_⟩
      · rw [List.map_cons, List.nodup_cons]; exact h
      · simpa using hy
    · rw [if_neg hz]
      refine ⟨?_, fun y hy => ?_⟩
      · rw [List.map_cons, List.nodup_cons]
        refine ⟨fun q => ?_, i1⟩
        rcases i2 _ q with q | q
        · exact hz q
        · exact h.1 q
      · rw [List.map_cons, List.mem_cons] at hy ⊢
        rcases hy with hy | hy
        · exact .inr (.inl hy)
        · exact (i2 y hy).imp_right .inr
end
theorem flat_length : ∀ fl : List (Str × V), (flatF fl).length = 2 * fl.length
  | [] => rfl
  | (n, v) :: fl => by rw [flat_cons, List.length_cons, List.length_cons, List.length_cons, flat_length fl]; omega
/-- an instance -/
theorem ref_ins {C : Ct} {r : Rf} {H : Hp} {h h' : VH} {u w : U} {v : V} {n n1 n2 n3 : Nat} {f : Nat → Nat → U → VR} (rh : RH C r H h) (hv : Rp r H u v)
    (e : u.caseRef (.bad n) (fun k => h.at k (.bad n1) fun o => VO.rec (fun _ => .bad n2) (fun _ => .bad n3) (fun c fs => f k c fs) o) = VR.one w h') :
    ∃ k c fs a A dx fl, u = .ref k ∧ v = .ref a ∧ h.find? k = some (.ins c fs) ∧ r.ρ k = some a ∧ C.CA c = some A ∧ H a = some (.ins A dx fl) ∧ (fl.map (·.1)).Nodup ∧ RpL r H fs (flatF fl) ∧ f k c fs = .one w h' := by
  cases u with
  | ref k =>
    have e : h.at k (.bad n1) (fun o => VO.rec (fun _ => .bad n2) (fun _ => .bad n3) (fun c fs => f k c fs) o) = VR.one w h' := e
    rw [VH.at_eq] at e
    cases hk : h.find? k with
    | none => rw [hk] at e; cases e
    | some o =>
      rw [hk] at e
      cases o with
      | ins c fs =>
        obtain ⟨a, rfl, ha⟩ := (show ∃ a, v = .ref a ∧ r.ρ k = some a from hv)
        obtain ⟨a', e2, A, dx, fl, h1, h2, h3, h4⟩ := rh.obj k _ hk
        rw [ha] at e2; cases e2
        exact ⟨k, c, fs, a, A, dx, fl, rfl, rfl, hk, ha, h1, h2, h3, h4, e⟩
      | lst s => cases e
      | dct s => cases e
  | _ => cases e
section
variable {C : Ct} {X : Cx} {k : Nat} {p : Prog} {call : Nat → U → VH → VR} {w : Nat} {a b c e o i tg : Expr} {es rest : List Expr} {ea eb ec eo ei el : VE} {pos pp apos : Pos} {x : Str}
/-- the classes: f is no name of theirs -/
def FldOk (C : Ct) (X : Cx) (x : Str) : Prop := ∀ c A, C.CA c = some A → Cls X.K A ∧ NoAttr X.K A x
theorem r_fld {f : Nat} (hf : StrIs f x) (hc : FldOk C X x) (ha : SE C X a (ev p call ea)) (hb : attributeBase a x X.env (eval a X.env) = eval a X.env := by rfl) : SE C X (.Attribute a x pos) (ev p call (.fld ea f)) := fun cc => by
  refine (pe_fld (ha cc) hb).weak fun σ H Q ⟨r, h, s, u, h', rh, rs, e, q⟩ => ?_
  obtain ⟨u1, h1, e1, e⟩ := bind_one e
  refine ⟨r, h, s, u1, h1, rh, rs, e1, fun r1 H1 v l1 k1 rh1 p1 => ?_⟩
  obtain ⟨k, c, fs, a, A, dx, fl, rfl, rfl, hk, ha, hA, hH, nd, hfl, e⟩ := ref_ins (f := fun k c fs => fget fs f (.bad 107) (fun u => .one u h1)) rh1 p1 e
  rcases fget_ok hf hfl e with ⟨n, z⟩ | ⟨u2, v2, e2, e3, e4⟩
  · cases z
  · cases (show VR.one u2 h1 = .one u h' from e2)
    exact ⟨a, A, dx, fl, v2, rfl, hH, (hc c A hA).1, (hc c A hA).2, e3, q r1 H1 v2 l1 k1 rh1 e4⟩
theorem q_fld {f : Nat} (hf : StrIs f x) (hc : FldOk C X x) (ho : SE C X o (ev p call eo)) (ha : SE C X a (ev p call ea)) (hs : swapsWith a (some (.Attribute o x pp)) pos.line X.env = pure false := by rfl) : SX C X p call w (.Assign [.Attribute o x pp] a pos) (.asgF eo f ea) := by
  refine (ps_fld (ho .nil) (ha .nil) hs).weak fun D σ H ⟨r, h, s, rh, rs, out⟩ => ?_
  obtain ⟨u, h1, e1, out⟩ := ofR_out out
  refine ⟨r, h, s, u, h1, rh, rs, e1, fun r1 H1 v l1 k1 rh1 p1 => ?_⟩
  obtain ⟨y, h2, e2, out⟩ := ofR_out out
  refine ⟨r1, h1, s, y, h2, rh1, rs.mono l1 k1, e2, fun r2 H2 v2 l2 k2 rh2 p2 => ?_⟩
  have out : Out C r H D (y.caseRef (.bad 131) fun k => h2.at k (.bad 131) fun ob => VO.rec (fun _ => .bad 131) (fun _ => .bad 131) (fun c fs => Bool.rec (.bad 139) (.nx s (h2.put k (.ins c (fput fs f u)))) (Nat.ble fs.len 1000)) ob) := out
  cases y with
  | ref k =>
    have out : Out C r H D (h2.at k (.bad 131) fun ob => VO.rec (fun _ => .bad 131) (fun _ => .bad 131) (fun c fs => Bool.rec (.bad 139) (.nx s (h2.put k (.ins c (fput fs f u)))) (Nat.ble fs.len 1000)) ob) := out
    rw [VH.at_eq] at out
    cases hk : h2.find? k with
    | none => rw [hk] at out; exact False.elim out
    | some ob =>
      rw [hk] at out
      cases ob with
      | ins c fs =>
        obtain ⟨a, rfl, ha⟩ := (show ∃ a, v2 = .ref a ∧ r2.ρ k = some a from p2)
        obtain ⟨a', e3, A, dx, fl, hA, hH, nd, hfl⟩ := rh2.obj k _ hk
        rw [ha] at e3; cases e3
        have out : Out C r H D (Bool.rec (.bad 139) (.nx s (h2.put k (.ins c (fput fs f u)))) (Nat.ble fs.len 1000)) := out
        have hlen : Nat.ble fs.len 1000 = true := by
          cases hb : Nat.ble fs.len 1000 with
          | true => rfl
          | false => rw [hb] at out; exact False.elim out
        rw [hlen] at out
        have hlt : fl.length < 1000 := by
          have z := hfl.length
          have z2 := Nat.ble_eq.mp hlen
          rw [flat_length] at z
          omega
        refine ⟨a, A, dx, fl, rfl, hH, (hc c A hA).1, (hc c A hA).2, hlt, ?_⟩
        have kp := (rh2.put (q := .ins A dx (putF x v fl)) (o' := .ins c (fput fs f u)) hk ha ⟨A, dx, putF x v fl, hA, upd_same, (keys_put_nodup x v fl nd).1, (fput_ok hf (p1.mono l2 k2) hfl).mono (Rf.Le.refl _) (Kp.put ha hH (fun _ z => by cases z) fun _ _ z => by cases z)⟩)
        exact out r2 _ σ (l1.trans l2) ((k1.trans k2).trans kp.2) kp.1 (rs.mono (l1.trans l2) ((k1.trans k2).trans kp.2))
      | lst s => exact False.elim out
      | dct s => exact False.elim out
  | _ => exact False.elim out
end
end
end VI
namespace VI
open PySem PySem.Spec PyProof.Rows L2
noncomputable section
/-! ### what is left behind a call -/
theorem find_keep (l : VL) (f : Nat → Bool) (j : Nat) : (l.keep f).find? j = if f j = true then l.find? j else none := by
  induction l with
  | nil => split <;> rfl
  | cons k o r ih =>
    show VL.find? (Bool.rec (r.keep f) (.cons k o (r.keep f)) (f k) : VL) j = if f j = true then (Bool.rec (r.find? j) (some o) (Nat.beq k j) : Option VO) else none
    cases hj : Nat.beq k j with
    | true =>
      have e := nat_beq_iff.mp hj
      subst e
      cases hf : f k with
      | true =>
        rw [if_pos rfl]
        show (Bool.rec ((r.keep f).find? k) (some o) (Nat.beq k k) : Option VO) = some o
        rw [hj]
      | false =>
        rw [if_neg (by decide)]
        show (r.keep f).find? k = none
        rw [ih, hf, if_neg (by decide)]
    | false =>
      show _ = if f j = true then r.find? j else none
      rw [← ih]
      cases hf : f k with
      | true =>
        show (Bool.rec ((r.keep f).find? j) (some o) (Nat.beq k j) : Option VO) = _
        rw [hj]
      | false => rfl
theorem VH.find_keep (h : VH) (f : Nat → Bool) (j : Nat) : (h.keep f).find? j = if f j = true then h.find? j else none := by cases h; exact VI.find_keep _ f j
theorem VH.nxt_keep (h : VH) (f : Nat → Bool) : (h.keep f).nxt = h.nxt := by cases h; rfl
theorem RH.keep {C : Ct} {r : Rf} {H : Hp} {h : VH} (x : RH C r H h) (f : Nat → Bool) : RH C r H (h.keep f) := by
  refine ⟨x.G, x.w, fun k o e => ?_, x.inj, fun k hk => x.lim k (by rw [VH.nxt_keep] at hk; exact hk), x.live⟩
  rw [VH.find_keep] at e
  split at e
  · exact x.obj k o e
  · cases e
theorem RH.gcH {C : Ct} {r : Rf} {H : Hp} {h : VH} (x : RH C r H h) (n : Nat) (u : U) : RH C r H (gcH n u h) := by
  have e : VI.gcH n u h = (Bool.rec (h.keep (gcK n u h)) h (Nat.beq h.nxt n) : VH) := by cases h; rfl
  rw [e]
  cases Nat.beq h.nxt n with
  | false => exact x.keep _
  | true => exact x
/-- an object goes, for its address is frozen -/
theorem RH.gone {C : Ct} {r : Rf} {H : Hp} {h : VH} {k : Nat} {a : Addr} {q : HO} {o : Obj} (x : RH C r H h) (f : Nat → Bool) (hf : f k = false) (ha : r.ρ k = some a) (hH : H a = some q) (h1 : ∀ xs, q ≠ .tup xs) (h2 : ∀ p u, q ≠ .frz p u) : RH C r (upd H a (.frz o q)) (h.keep f) := by
  refine ⟨x.G, x.w, fun j p e => ?_, x.inj, fun k hk => x.lim k (by rw [VH.nxt_keep] at hk; exact hk), fun j b e => by
    by_cases hb : b = a
    · exact ⟨_, by rw [hb]; exact upd_same⟩
    · obtain ⟨u, hu⟩ := x.live j b e; exact ⟨u, by rw [upd_ne hb]; exact hu⟩⟩
  rw [VH.find_keep] at e
  split at e
  · rename_i hj
    obtain ⟨b, e1, z⟩ := x.obj j p e
    have hb : b ≠ a := fun e => by
      subst e
      have := x.inj j k _ e1 ha
      subst this
      rw [hf] at hj; cases hj
    exact ⟨b, e1, z.mono (Rf.Le.refl r) (Kp.put ha hH h1 h2) (upd_ne hb)⟩
  · cases e
/-- what may be frozen -/
def Icy (q : HO) : Prop := (∃ xs, q = .lst xs) ∨ (∃ φ, q = .ext φ) ∨ ∃ kvs, q = .dK kvs
theorem Icy.tup {q : HO} (h : Icy q) : ∀ xs, q ≠ .tup xs := fun xs z => by rcases h with ⟨_, rfl⟩ | ⟨_, rfl⟩ | ⟨_, rfl⟩ <;> cases z
theorem Icy.frz {q : HO} (h : Icy q) : ∀ o u, q ≠ .frz o u := fun o u z => by rcases h with ⟨_, rfl⟩ | ⟨_, rfl⟩ | ⟨_, rfl⟩ <;> cases z
/-- a dict that changes is frozen: it is a value from then on -/
theorem RO.vd {C : Ct} {r : Rf} {H : Hp} {a : Addr} {s : U} (h : RO C r H a (.dct s)) : ∃ q, H a = some q ∧ Icy q ∧ ∀ H' o, Kq H H' → H' a = some (.frz o q) → Rp r H' (.vd s) (.ref a) := by
  rcases h with ⟨kvs, e, n, l⟩ | ⟨kvs, e, n, l⟩
  · exact ⟨_, e, .inr (.inr ⟨_, rfl⟩), fun H' o k e' => ⟨a, o, rfl, .inl ⟨kvs, e', n, l.monoq (Rf.Le.refl r) k⟩⟩⟩
  · exact ⟨_, e, .inr (.inl ⟨_, rfl⟩), fun H' o k e' => ⟨a, o, rfl, .inr ⟨kvs, e', n, l.monoq (Rf.Le.refl r) k⟩⟩⟩
/-- the end of a call: the value as it is, or a new list, frozen -/
theorem leave_ok {C : Ct} {r : Rf} {H : Hp} {gc : Bool} {h0 h h' : VH} {u v : U} {x : V} (rh : RH C r H h) (hv : Rp r H u x) (e : leave gc h0 u h = .one v h') :
    (v = u ∧ RH C r H h') ∨ ∃ a q k, x = .ref a ∧ H a = some q ∧ Icy q ∧ r.ρ k = some a ∧ ∀ o, RH C r (upd H a (.frz o q)) h' ∧ Rp r (upd H a (.frz o q)) v x := by
  have e : (Bool.rec (.one u h) (u.caseRef (.one u (gcH h0.nxt u h)) (fun k => Bool.rec (.one u (gcH h0.nxt u h)) (h.at k (.one u (gcH h0.nxt u h)) (fun o => VO.rec (fun s => gone h0.nxt k (mkL s) h) (fun s => gone h0.nxt k (.vd s) h) (fun _ _ => .one u (gcH h0.nxt u h)) o)) (Nat.ble h0.nxt k))) gc : VR) = .one v h' := by
    cases h0; exact e
  have plain : VR.one u (gcH h0.nxt u h) = .one v h' → (v = u ∧ RH C r H h') ∨ ∃ a q k, x = .ref a ∧ H a = some q ∧ Icy q ∧ r.ρ k = some a ∧ ∀ o, RH C r (upd H a (.frz o q)) h' ∧ Rp r (upd H a (.frz o q)) v x := fun z => by
    cases z; exact .inl ⟨rfl, rh.gcH _ _⟩
  cases gc with
  | false => cases (show VR.one u h = .one v h' from e); exact .inl ⟨rfl, rh⟩
  | true =>
    cases u with
    | ref k =>
      have e : (Bool.rec (VR.one (.ref k) (gcH h0.nxt (.ref k) h)) (h.at (α := VR) k (VR.one (.ref k) (gcH h0.nxt (.ref k) h)) (fun o => VO.rec (fun s => gone h0.nxt k (mkL s) h) (fun s => gone h0.nxt k (.vd s) h) (fun _ _ => .one (.ref k) (gcH h0.nxt (.ref k) h)) o)) (Nat.ble h0.nxt k) : VR) = .one v h' := e
      cases hb : Nat.ble h0.nxt k with
      | false => rw [hb] at e; exact plain e
      | true =>
        rw [hb] at e
        have e : h.at (α := VR) k (VR.one (.ref k) (gcH h0.nxt (.ref k) h)) (fun o => VO.rec (fun s => gone h0.nxt k (mkL s) h) (fun s => gone h0.nxt k (.vd s) h) (fun _ _ => VR.one (.ref k) (gcH h0.nxt (.ref k) h)) o) = VR.one v h' := e
        rw [VH.at_eq] at e
        cases hk : h.find? k with
        | none => rw [hk] at e; exact plain e
        | some o =>
          rw [hk] at e
          cases o with
          | ins c fs => exact plain e
          | dct s =>
            obtain ⟨a, rfl, ha⟩ := (show ∃ a, x = .ref a ∧ r.ρ k = some a from hv)
            obtain ⟨a', e2, z⟩ := rh.obj k _ hk
            rw [ha] at e2; cases e2
            obtain ⟨q, g1, ic, g2⟩ := z.vd
            have e : VR.one (.vd s) (h.keep (fun j => Bool.rec (gcK h0.nxt (.vd s) h j) false (Nat.beq j k))) = .one v h' := e
            cases e
            refine .inr ⟨a, q, k, rfl, g1, ic, ha, fun o => ⟨rh.gone _ ?_ ha g1 ic.tup ic.frz, ?_⟩⟩
            · rw [nat_beq_iff.mpr rfl]
            · exact g2 _ o (Kp.put ha g1 ic.tup ic.frz).q upd_same
          | lst s =>
            obtain ⟨a, rfl, ha⟩ := (show ∃ a, x = .ref a ∧ r.ρ k = some a from hv)
            obtain ⟨a', e2, xs, g1, g2⟩ := rh.obj k _ hk
            rw [ha] at e2; cases e2
            have e : VR.one (mkL s) (h.keep (fun j => Bool.rec (gcK h0.nxt (mkL s) h j) false (Nat.beq j k))) = .one v h' := e
            cases e
            refine .inr ⟨a, .lst xs, k, rfl, g1, .inl ⟨xs, rfl⟩, ha, fun o => ⟨rh.gone _ ?_ ha g1 (fun _ z => by cases z) (fun _ _ z => by cases z), ?_⟩⟩
            · rw [nat_beq_iff.mpr rfl]
            · exact rp_mkL (g2.mono (Rf.Le.refl r) (Kp.put ha g1 (fun _ z => by cases z) (fun _ _ z => by cases z))) upd_same
    | _ => exact plain e
/-- at the end of a body a new list may be frozen -/
theorem _root_.L2.PSs.icy {X : Cx} {sts : List Stmt} {t : TS} (h : PSs X sts t) : PSs X sts (fun D σ H => t { D with rt := fun v H1 => D.rt v H1 ∨ ∃ a q, v = .ref a ∧ H1 a = some q ∧ Icy q ∧ ∀ o, D.rt v (upd H1 a (.frz o q)) } σ H) := by
  refine ⟨fun pins s σ H D I q => ?_⟩
  refine thn (h.run pins s σ H _ I q) fun f s1 q => ?_
  cases f with
  | next => exact q
  | brk => exact q
  | cont => exact q
  | ret u =>
    obtain ⟨v, σ', H', I1, r, q⟩ := q
    rcases q with q | ⟨a, xs, e, ha, ic, q⟩
    · exact ⟨v, σ', H', I1, r, q⟩
    · obtain ⟨o, I2⟩ := I1.frz ha ic
      exact ⟨v, σ', _, I2, r, q o⟩
/-! ### a def keeps its promise -/
theorem rs_of : ∀ {r : Rf} {H : Hp} {s : U} {vs : List V} {n : Nat}, RpL r H s vs → RS r H (VS.of s n) (vs.map some ++ List.replicate n none)
  | r, H, .nil, vs, n, h => by
    cases (show vs = [] from h)
    show RS r H (Nat.rec .nil (fun _ ih => .un ih) n : VS) (List.replicate n none)
    induction n with
    | zero => exact trivial
    | succ n ih => rw [List.replicate_succ]; exact ih
  | r, H, .cons a b, vs, n, h => by
    obtain ⟨x, xs, rfl, h1, h2⟩ := h
    exact ⟨h1, rs_of h2⟩
  | _, _, .non, _, _, h => False.elim h
  | _, _, .bl _, _, _, h => False.elim h
  | _, _, .int _, _, _, h => False.elim h
  | _, _, .str _, _, _, h => False.elim h
  | _, _, .tup _ _, _, _, h => False.elim h
  | _, _, .vl _ _, _, _, h => False.elim h
  | _, _, .vd _, _, _, h => False.elim h
  | _, _, .ref _, _, _, h => False.elim h
  | _, _, .gf _, _, _, h => False.elim h
  | _, _, .clo _ _, _, _, h => False.elim h
/-- a body that does as its evaluation keeps the promise of the call -/
theorem body_ok {C : Ct} {X : Cx} {p : Prog} {ih : Nat → U → VH → VR} {w n nl : Nat} {sts : List Stmt} {body : VSt} {gc : Bool} {vs : List V} {H : Hp} {Q : VK}
    (hb : SSs C X sts (ex p ih w body))
    (hq : rC C (fun s h => VRS.rec (fun _ h1 => leave gc h .non h1) (fun u h1 => leave gc h u h1) (fun _ _ => .bad 128) (fun _ _ => .bad 128) .bad (ex p ih w body (VS.of s nl) h)) vs H Q) :
    ∃ t, PSs X sts t ∧ t { nx := fun _ H' => Q .non H', rt := Q } (vs.map some ++ List.replicate nl none) H := by
  refine ⟨_, PSs.icy hb, ?_⟩
  obtain ⟨r, h, s, u, h', rh, hs, e, fo⟩ := hq
  refine ⟨r, h, VS.of s nl, rh, rs_of hs, ?_⟩
  have e : (VRS.rec (fun _ h1 => leave gc h .non h1) (fun u h1 => leave gc h u h1) (fun _ _ => .bad 128) (fun _ _ => .bad 128) .bad (ex p ih w body (VS.of s nl) h) : VR) = .one u h' := e
  cases hx : ex p ih w body (VS.of s nl) h with
  | nx s1 h1 =>
    rw [hx] at e
    intro r' H' σ' l k rh1 _
    rcases leave_ok (x := .non) rh1 (show Rp r' H' .non .non from rfl) e with ⟨rfl, z⟩ | ⟨a, xs, k, z, _⟩
    · exact fo r' H' _ l k z rfl
    · cases z
  | rt u1 h1 =>
    rw [hx] at e
    intro r' H' v l k rh1 p1
    rcases leave_ok rh1 p1 e with ⟨rfl, z⟩ | ⟨a, xs, k2, rfl, z1, ic, zk, z⟩
    · exact .inl (fo r' H' v l k z p1)
    · refine .inr ⟨a, xs, rfl, z1, ic, fun o => ?_⟩
      exact fo r' _ _ l (k.trans (Kp.put zk z1 ic.tup ic.frz)) (z o).1 (z o).2
  | bk s1 h1 => rw [hx] at e; cases e
  | ct s1 h1 => rw [hx] at e; cases e
  | bad m => rw [hx] at e; cases e
end
end VI
namespace VI
open PySem PySem.Spec PyProof.Rows L2
noncomputable section
/-! ### what a loop walks -/
def nthU (s : U) (i : Nat) : Option U := s.nth i none some
theorem nth_eq {α : Type} : ∀ (s : U) (i : Nat) (z : α) (f : U → α), s.nth i z f = match nthU s i with | some a => f a | none => z
  | .nil, i, z, f => rfl
  | .cons a b, 0, z, f => rfl
  | .cons a b, i + 1, z, f => nth_eq b i z f
  | .non, i, z, f => rfl
  | .bl _, i, z, f => rfl
  | .int _, i, z, f => rfl
  | .str _, i, z, f => rfl
  | .tup _ _, i, z, f => rfl
  | .vl _ _, i, z, f => rfl
  | .vd _, i, z, f => rfl
  | .ref _, i, z, f => rfl
  | .gf _, i, z, f => rfl
  | .clo _ _, i, z, f => rfl
theorem nthU_cons (a b : U) (i : Nat) : nthU (.cons a b) (i + 1) = nthU b i := rfl
theorem nthU_ok {r : Rf} {H : Hp} : ∀ {s : U} {xs : List V} {i : Nat}, RpL r H s xs → (∀ a, nthU s i = some a → ∃ x, xs[i]? = some x ∧ Rp r H a x) ∧ (nthU s i = none → xs.length ≤ i)
  | .nil, xs, i, h => by
    cases (show xs = [] from h)
    exact ⟨(fun a e => by cases (show (none : Option U) = some a from e)), fun _ => Nat.zero_le _⟩
  | .cons a b, xs, i, h => by
    obtain ⟨x, ys, rfl, h1, h2⟩ := h
    cases i with
    | zero => exact ⟨(fun c e => by cases (show some a = some c from e); exact ⟨x, rfl, h1⟩), (fun e => by cases (show some a = none from e))⟩
    | succ i =>
      obtain ⟨q1, q2⟩ := nthU_ok (i := i) h2
      exact ⟨fun c e => q1 c e, fun e => Nat.succ_le_succ (q2 e)⟩
  | .non, _, _, h => False.elim h
  | .bl _, _, _, h => False.elim h
  | .int _, _, _, h => False.elim h
  | .str _, _, _, h => False.elim h
  | .tup _ _, _, _, h => False.elim h
  | .vl _ _, _, _, h => False.elim h
  | .vd _, _, _, h => False.elim h
  | .ref _, _, _, h => False.elim h
  | .gf _, _, _, h => False.elim h
  | .clo _ _, _, _, h => False.elim h
/-- J, at place i, gives what the spine s has there -/
def At (C : Ct) (y : Bool) (J : It) (r : Rf) (H : Hp) (s : U) (i : Nat) : Prop :=
  (∀ a, nthU s i = some a → J.go i H ∧ ∀ x H', J.yld i H x H' → Kp r H r H' ∧ (∀ h, RH C r H h → RH C r H' h) ∧ RpB y r H' a x) ∧ (nthU s i = none → J.stop i H)
/-- what x is walked as, in any heap: values, or a list that may change -/
def walkOf (x : U) (h : VH) : Option (U ⊕ Nat) := x.walk h none (fun s => some (.inl s)) (fun k => some (.inr k))
theorem walk_eq {α : Type} (x : U) (h : VH) (z : α) (f : U → α) (g : Nat → α) : x.walk h z f g = match walkOf x h with | some (.inl s) => f s | some (.inr k) => g k | none => z := by
  cases x with
  | ref k =>
    show h.at k z (fun o => VO.rec (fun _ => g k) (fun _ => z) (fun _ _ => z) o) = match (h.at k none (fun o => VO.rec (fun _ => some (.inr k)) (fun _ => none) (fun _ _ => none) o) : Option (U ⊕ Nat)) with | some (.inl s) => f s | some (.inr k) => g k | none => z
    rw [VH.at_eq, VH.at_eq]
    cases h.find? k with
    | none => rfl
    | some o => cases o <;> rfl
  | _ => rfl
/-- J walks x -/
def Wk (C : Ct) (y : Bool) (J : It) (r0 : Rf) (H0 : Hp) (x : U) (h0 : VH) : Prop :=
  (∀ s, walkOf x h0 = some (.inl s) → ∀ i r H, r0.Le r → Kq H0 H → At C y J r H s i) ∧
  (∀ k, walkOf x h0 = some (.inr k) → ∀ i r H h s, r0.Le r → Kq H0 H → RH C r H h → h.find? k = some (.lst s) → At C y J r H s i)
/-- an expression that is walked as its evaluation says -/
def tSI (C : Ct) (y : Bool) (f : VS → VH → VR) : TI := fun σ H R => ∃ r h s u h', RH C r H h ∧ RS r H s σ ∧ f s h = .one u h' ∧ walkOf u h' ≠ none ∧
  ∀ r' H' J, r.Le r' → Kp r H r' H' → RH C r' H' h' → Wk C y J r' H' u h' → R J H'
def SI (C : Ct) (X : Cx) (y : Bool) (tg e : Expr) (f : Sem) : Prop := PI X tg e (tSI C y (f .nil))
theorem _root_.L2.PI.weak {X : Cx} {tg e : Expr} {t t' : TI} (h : PI X tg e t) (w : ∀ σ H Q, t' σ H Q → t σ H Q) : PI X tg e t' := ⟨fun pins s σ H Q I q => h.run pins s σ H Q I (w σ H Q q)⟩
section
variable {C : Ct} {X : Cx} {k : Nat} {p : Prog} {call : Nat → U → VH → VR} {w : Nat} {a b c e o it tg : Expr} {es rest : List Expr} {ea eb ec eo ei el : VE} {pos pp apos : Pos} {x f m : Str} {sts : List Stmt} {t : VT} {sb : VSt}
theorem at_list {y : Bool} {r : Rf} {H : Hp} {a : Addr} {xs : List V} {s : U} (i : Nat) (K : PySem.W.Frag) (h : SqL K H a xs) (hs : RpL r H s xs) : At C y (Itl K a) r H s i := by
  obtain ⟨q1, q2⟩ := nthU_ok (i := i) hs
  refine ⟨fun u e => ?_, fun e => ⟨xs, h, q2 e⟩⟩
  obtain ⟨x, hx, hr⟩ := q1 u e
  refine ⟨⟨xs, x, h, hx⟩, fun y H' ⟨eH, hy⟩ => ?_⟩
  subst eH
  have : some x = some y := hx.symm.trans (hy xs h)
  cases this
  exact ⟨Kp.refl _, fun _ z => z, .inl hr⟩
theorem at_tup {y : Bool} {r : Rf} {H : Hp} {a : Addr} {xs : List V} {s : U} (i : Nat) (K : PySem.W.Frag) (h : SqT K H a xs) (hs : RpL r H s xs) : At C y (Itt K a) r H s i := by
  obtain ⟨q1, q2⟩ := nthU_ok (i := i) hs
  refine ⟨fun u e => ?_, fun e => ⟨xs, h, q2 e⟩⟩
  obtain ⟨x, hx, hr⟩ := q1 u e
  refine ⟨⟨xs, x, h, hx⟩, fun y H' ⟨eH, hy⟩ => ?_⟩
  subst eH
  have : some x = some y := hx.symm.trans (hy xs h)
  cases this
  exact ⟨Kp.refl _, fun _ z => z, .inl hr⟩
theorem charsG_lt : ∀ (f n : Nat) (acc : List Nat), (∀ c ∈ acc, c < vB) → ∀ c ∈ charsG f n acc, c < vB
  | 0, n, acc, h => by rw [charsG]; exact h
  | f + 1, n, acc, h => by
    rw [charsG]
    by_cases hn : n = 0
    · rw [if_pos hn]; exact h
    · rw [if_neg hn]
      refine charsG_lt f _ _ fun c hc => ?_
      rcases List.mem_cons.mp hc with e | e
      · rw [e]; exact Nat.mod_lt _ (by decide)
      · exact h c e
theorem charsL_lt {n c : Nat} (h : c ∈ charsL n) : c < vB := charsG_lt _ _ _ (fun _ z => by cases z) c h
theorem strIs_one {n c : Nat} {x : Str} (h : StrIs n x) (hc : c ∈ charsL n) : StrIs (c + 1) ⟨#[c]⟩ := by
  have e := charsL_one (m := c + 1) (by omega) (by have := charsL_lt hc; omega)
  refine ⟨?_, ?_, ?_⟩
  · show _ = Str.mk (charsL (c + 1)).toArray
    rw [e]; rfl
  · rw [e]; show 0 * vB + c + 1 = c + 1; omega
  · have h3 := h.2.2
    rw [h.1] at h3
    have h3 : (charsL n).toArray.all (· < 0x110000) = true := h3
    rw [List.all_toArray, List.all_eq_true] at h3
    show (#[c] : Array Nat).all (· < 0x110000) = true
    simpa using h3 c hc
theorem nthU_spL (l : List Nat) (i : Nat) : nthU (spL (l.map fun c => U.str (c + 1))) i = (l[i]?).map fun c => U.str (c + 1) := by
  induction l generalizing i with
  | nil => rfl
  | cons c l ih =>
    cases i with
    | zero => rfl
    | succ i => exact ih i
theorem at_str {y : Bool} {r : Rf} {H : Hp} {n : Nat} {x : Str} (i : Nat) (h : StrIs n x) : At C y (Its x) r H (charsOf n) i := by
  have ec : x.cps.toList = charsL n := by rw [h.1, dec_cps]
  have eg : x.cps[i]? = (charsL n)[i]? := by rw [← ec]; simp
  have es : x.cps.size = (charsL n).length := by rw [← ec]; simp
  rw [At, charsOf_eq, nthU_spL]
  refine ⟨fun a e => ?_, fun e => ?_⟩
  · cases hc : (charsL n)[i]? with
    | none => rw [hc] at e; cases e
    | some c =>
      rw [hc] at e
      cases e
      refine ⟨?_, fun v H' ⟨eH, c', h1, h2⟩ => ?_⟩
      · show i < x.cps.size
        rw [es]
        exact (List.getElem?_eq_some_iff.mp hc).1
      · subst eH
        rw [eg, hc] at h1
        cases h1
        exact ⟨Kp.refl _, fun _ z => z, .inl ⟨_, h2, strIs_one h (List.mem_of_getElem? hc)⟩⟩
  · show x.cps.size ≤ i
    rw [es]
    cases hc : (charsL n)[i]? with
    | none => exact List.getElem?_eq_none_iff.mp hc
    | some c => rw [hc] at e; cases e
/-- a value -/
theorem i_val {y0 : Bool} (ha : SE C X a (ev p call ea)) : SI C X y0 tg a (ev p call ea) := by
  have P1 := pi_list (tg := tg) (ha .nil)
  have P2 := pi_tup (tg := tg) (ha .nil)
  have P3 := pi_str (tg := tg) (ha .nil)
  refine ⟨fun pins s0 σ H R I ⟨r, h, s, u, h', rh, rs, e, n, q⟩ => ?_⟩
  cases u with
  | vl d y =>
    refine P1.run pins s0 σ H R I ⟨r, h, s, .vl d y, h', rh, rs, e, fun r1 H1 v l1 k1 rh1 p1 => ?_⟩
    obtain ⟨a, o, xs, rfl, g1, g2, _⟩ := (show ∃ a o xs, v = .ref a ∧ H1 a = some (.frz o (.lst xs)) ∧ RpL r1 H1 y xs ∧ Dep d y from p1)
    refine ⟨a, rfl, ⟨xs, .inl (.inr ⟨o, g1⟩)⟩, q r1 H1 _ l1 k1 rh1 ⟨fun z hz i r2 H2 l2 k2 => ?_, fun k hz => by cases hz⟩⟩
    cases hz
    exact at_list i X.K (.inl (.inr ⟨o, k2.frz a o _ g1⟩)) (g2.monoq l2 k2)
  | tup d y =>
    refine P2.run pins s0 σ H R I ⟨r, h, s, .tup d y, h', rh, rs, e, fun r1 H1 v l1 k1 rh1 p1 => ?_⟩
    obtain ⟨a, o, xs, rfl, g1, g2⟩ := tup_rd p1
    refine ⟨a, rfl, ⟨xs, SqT.ofF g1.1⟩, q r1 H1 _ l1 k1 rh1 ⟨fun z hz i r2 H2 l2 k2 => ?_, fun k hz => by cases hz⟩⟩
    cases hz
    exact at_tup i X.K (SqT.ofF (k2.frz a _ _ g1.1)) (g2.monoq l2 k2)
  | ref k =>
    refine P1.run pins s0 σ H R I ⟨r, h, s, .ref k, h', rh, rs, e, fun r1 H1 v l1 k1 rh1 p1 => ?_⟩
    have n : (h'.at k none (fun o => VO.rec (fun _ => some (.inr k)) (fun _ => none) (fun _ _ => none) o) : Option (U ⊕ Nat)) ≠ none := n
    rw [VH.at_eq] at n
    cases hk : h'.find? k with
    | none => rw [hk] at n; exact absurd rfl n
    | some ob =>
      rw [hk] at n
      cases ob with
      | dct z => exact absurd rfl n
      | ins c fs => exact absurd rfl n
      | lst z =>
        obtain ⟨a, rfl, ha⟩ := (show ∃ a, v = .ref a ∧ r1.ρ k = some a from p1)
        obtain ⟨a', e2, xs, g1, g2⟩ := rh1.obj k _ hk
        rw [ha] at e2; cases e2
        refine ⟨a, rfl, ⟨xs, SqL.of g1⟩, q r1 H1 _ l1 k1 rh1 ⟨fun s1 hz => ?_, fun k' hz i r2 H2 h2 s2 l2 k2 rh2 hk2 => ?_⟩⟩
        · exfalso
          have hz : (h'.at k none (fun o => VO.rec (fun _ => some (.inr k)) (fun _ => none) (fun _ _ => none) o) : Option (U ⊕ Nat)) = some (.inl s1) := hz
          rw [VH.at_eq, hk] at hz
          cases hz
        · have hz : (h'.at k none (fun o => VO.rec (fun _ => some (.inr k)) (fun _ => none) (fun _ _ => none) o) : Option (U ⊕ Nat)) = some (.inr k') := hz
          rw [VH.at_eq, hk] at hz
          cases hz
          obtain ⟨b, e3, ys, g3, g4⟩ := rh2.obj k _ hk2
          rw [l2.ρ k a ha] at e3; cases e3
          exact at_list i X.K (SqL.of g3) g4
  | str m =>
    refine P3.run pins s0 σ H R I ⟨r, h, s, .str m, h', rh, rs, e, fun r1 H1 v l1 k1 rh1 p1 => ?_⟩
    obtain ⟨x, rfl, hx⟩ := (show ∃ x, v = .str x ∧ StrIs m x from p1)
    refine ⟨x, rfl, q r1 H1 _ l1 k1 rh1 ⟨fun z hz i r2 H2 l2 k2 => ?_, fun k hz => by cases hz⟩⟩
    cases hz
    exact at_str i hx
  | _ => exact absurd rfl n
/-! ### for -/
theorem nthU_drop : ∀ (s : U) (i : Nat), (∀ a, nthU s i = some a → ∃ t, s.drop i = .cons a t) ∧ (nthU s i = none → ∀ a t, s.drop i ≠ .cons a t)
  | .cons a b, 0 => ⟨(fun c e => by cases (show some a = some c from e); exact ⟨b, rfl⟩), (fun e => by cases (show some a = none from e))⟩
  | .cons a b, i + 1 => nthU_drop b i
  | .nil, i => ⟨(fun c e => by cases (show (none : Option U) = some c from e)), fun _ a t z => by cases (show U.nil = .cons a t from z)⟩
  | .non, i => ⟨(fun c e => by cases (show (none : Option U) = some c from e)), fun _ a t z => by cases (show U.nil = .cons a t from z)⟩
  | .bl _, i => ⟨(fun c e => by cases (show (none : Option U) = some c from e)), fun _ a t z => by cases (show U.nil = .cons a t from z)⟩
  | .int _, i => ⟨(fun c e => by cases (show (none : Option U) = some c from e)), fun _ a t z => by cases (show U.nil = .cons a t from z)⟩
  | .str _, i => ⟨(fun c e => by cases (show (none : Option U) = some c from e)), fun _ a t z => by cases (show U.nil = .cons a t from z)⟩
  | .tup _ _, i => ⟨(fun c e => by cases (show (none : Option U) = some c from e)), fun _ a t z => by cases (show U.nil = .cons a t from z)⟩
  | .vl _ _, i => ⟨(fun c e => by cases (show (none : Option U) = some c from e)), fun _ a t z => by cases (show U.nil = .cons a t from z)⟩
  | .vd _, i => ⟨(fun c e => by cases (show (none : Option U) = some c from e)), fun _ a t z => by cases (show U.nil = .cons a t from z)⟩
  | .ref _, i => ⟨(fun c e => by cases (show (none : Option U) = some c from e)), fun _ a t z => by cases (show U.nil = .cons a t from z)⟩
  | .gf _, i => ⟨(fun c e => by cases (show (none : Option U) = some c from e)), fun _ a t z => by cases (show U.nil = .cons a t from z)⟩
  | .clo _ _, i => ⟨(fun c e => by cases (show (none : Option U) = some c from e)), fun _ a t z => by cases (show U.nil = .cons a t from z)⟩
/-- how much is left of a spine -/
def Left (s0 : U) (i : Nat) (s : U) : Prop := ∀ j, nthU s j = nthU s0 (i + j)
theorem Left.zero (s : U) : Left s 0 s := fun j => by rw [Nat.zero_add]
theorem Left.next {s0 : U} {i : Nat} {a s : U} (h : Left s0 i (.cons a s)) : Left s0 (i + 1) s := fun j => by
  have := h (j + 1)
  rw [nthU_cons] at this
  rw [this]
  congr 1
  omega
/-- the body, run by its evaluation: what comes of one turn -/
theorem turn_out {r : Rf} {H : Hp} {D : Ends} {nx : SemS} {x : VRS} {N : L2.St → Hp → Prop} (o : Out C r H D (VRS.rec (fun σ h => nx σ h) .rt (fun σ h => .nx σ h) (fun σ h => nx σ h) .bad x))
    (hN : ∀ s h σ' H' r', r.Le r' → Kp r H r' H' → RH C r' H' h → RS r' H' s σ' → Out C r H D (nx s h) → N σ' H') : Out C r H { D with nx := N, ct := N, bk := D.nx } x := by
  cases x with
  | nx s h => exact fun r' H' σ' l k rh rs => hN s h σ' H' r' l k rh rs o
  | ct s h => exact fun r' H' σ' l k rh rs => hN s h σ' H' r' l k rh rs o
  | bk s h => exact o
  | rt u h => exact o
  | bad n => exact o
theorem q_for {y0 : Bool} (hp : PassesOwn (model X.prog X.w) X.A X.env X.xe) (hc : X.calm = true) (hi : SI C X y0 tg it (ev p call ea)) (hg : SG C X y0 tg t) (hb : SXs C X p call w sts sb) (hs : ∀ x, foldedSetIterable it X.env x = pure x := by intro _; rfl) :
    SX C X p call w (.For tg it sts [] pos) (.for_ t ea sb) := by
  refine (ps_for hp hc hi hg hb hs).weak fun D σ H ⟨r, h, s, rh, rs, o⟩ => ?_
  obtain ⟨u, h1, e, o⟩ := ofR_out o
  rw [walk_eq] at o
  have n : walkOf u h1 ≠ none := fun z => by rw [z] at o; exact o
  refine ⟨r, h, s, u, h1, rh, rs, e, n, fun r1 H1 J l1 k1 rh1 wk => ?_⟩
  have o1 := Out.mono l1 k1 o
  have rs1 := rs.mono l1 k1
  cases hw : walkOf u h1 with
  | none => exact absurd hw n
  | some y =>
    rw [hw] at o1
    cases y with
    | inl s0 =>
      have at_ := wk.1 s0 hw
      refine ⟨fun i m σ H => ∃ r h s sp, r1.Le r ∧ Kp r1 H1 r H ∧ RH C r H h ∧ RS r H s σ ∧ Left s0 i sp ∧ m = sp.len ∧ Out C r H D (forV t (fun σ h => ex p call w sb σ h) sp s h), ⟨s0.len, r1, h1, s, s0, Rf.Le.refl _, Kp.refl _, rh1, rs1, Left.zero s0, rfl, o1⟩, ?_⟩
      rintro i m σ2 H2 ⟨r2, h2, s2, sp, l2, k2, rh2, rs2, lf, rfl, o2⟩
      have a2 := at_ i r2 H2 l2 k2.q
      have e0 : nthU sp 0 = nthU s0 i := lf 0
      cases sp with
      | cons a b =>
        obtain ⟨go, yl⟩ := a2.1 a (e0.symm.trans rfl)
        refine .inr ⟨go, fun σ' H' => ∃ m', m' < b.len + 1 ∧ ∃ r h s sp, r1.Le r ∧ Kp r1 H1 r H' ∧ RH C r H' h ∧ RS r H' s σ' ∧ Left s0 (i + 1) sp ∧ m' = sp.len ∧ Out C r H' D (forV t (fun σ h => ex p call w sb σ h) sp s h), fun σ' H' z => z, fun x H3 yl3 => ?_⟩
        obtain ⟨k3, rh3, p3⟩ := yl x H3 yl3
        have o3 : Out C r2 H2 D (asgT (.bad 137) t a s2 h2 (fun σ => VRS.rec (fun σ h => forV t (fun σ h => ex p call w sb σ h) b σ h) .rt (fun σ h => .nx σ h) (fun σ h => forV t (fun σ h => ex p call w sb σ h) b σ h) .bad (ex p call w sb σ h2))) := o2
        rw [asgT_eq] at o3
        cases hx : asgT none t a s2 h2 some with
        | none => rw [hx] at o3; exact False.elim o3
        | some s3 =>
          rw [hx] at o3
          refine ⟨r2, h2, s2, a, s3, rh3 h2 rh2, rs2.mono (Rf.Le.refl _) k3, p3, hx, fun σ3 rs3 _ => ⟨r2, h2, s3, rh3 h2 rh2, rs3, ?_⟩⟩
          refine turn_out (Out.mono (Rf.Le.refl _) k3 o3) fun s4 h4 σ4 H4 r4 l4 k4 rh4 rs4 o4 => ?_
          exact ⟨b.len, Nat.lt_succ_self _, r4, h4, s4, b, l2.trans l4, (k2.trans k3).trans k4, rh4, rs4, lf.next, rfl, Out.mono l4 k4 o4⟩
      | _ =>
        refine .inl ⟨a2.2 (e0.symm.trans rfl), ?_⟩
        exact o2 r2 H2 σ2 (Rf.Le.refl _) (Kp.refl _) rh2 rs2
    | inr k0 =>
      have at_ := wk.2 k0 hw
      refine ⟨fun i m σ H => ∃ r h s, r1.Le r ∧ Kp r1 H1 r H ∧ RH C r H h ∧ RS r H s σ ∧ Out C r H D (forL t (fun σ h => ex p call w sb σ h) k0 m i s h), ⟨w, r1, h1, s, Rf.Le.refl _, Kp.refl _, rh1, rs1, o1⟩, ?_⟩
      rintro i m σ2 H2 ⟨r2, h2, s2, l2, k2, rh2, rs2, o2⟩
      cases m with
      | zero => exact False.elim o2
      | succ m =>
        have o2 : Out C r2 H2 D (h2.at k0 (.bad 151) (fun ob => VO.rec (fun z => z.nth i (.nx s2 h2) (fun a => asgT (.bad 137) t a s2 h2 (fun σ => VRS.rec (fun σ h => forL t (fun σ h => ex p call w sb σ h) k0 m (i + 1) σ h) .rt (fun σ h => .nx σ h) (fun σ h => forL t (fun σ h => ex p call w sb σ h) k0 m (i + 1) σ h) .bad (ex p call w sb σ h2)))) (fun _ => .bad 151) (fun _ _ => .bad 151) ob)) := o2
        rw [VH.at_eq] at o2
        cases hk : h2.find? k0 with
        | none => rw [hk] at o2; exact False.elim o2
        | some ob =>
          rw [hk] at o2
          cases ob with
          | dct z => exact False.elim o2
          | ins c fs => exact False.elim o2
          | lst z =>
            have o2 : Out C r2 H2 D (z.nth i (.nx s2 h2) (fun a => asgT (.bad 137) t a s2 h2 (fun σ => VRS.rec (fun σ h => forL t (fun σ h => ex p call w sb σ h) k0 m (i + 1) σ h) .rt (fun σ h => .nx σ h) (fun σ h => forL t (fun σ h => ex p call w sb σ h) k0 m (i + 1) σ h) .bad (ex p call w sb σ h2)))) := o2
            rw [nth_eq] at o2
            have a2 := at_ i r2 H2 h2 z l2 k2.q rh2 hk
            cases hn : nthU z i with
            | none =>
              rw [hn] at o2
              exact .inl ⟨a2.2 hn, o2 r2 H2 σ2 (Rf.Le.refl _) (Kp.refl _) rh2 rs2⟩
            | some a =>
              rw [hn] at o2
              obtain ⟨go, yl⟩ := a2.1 a hn
              refine .inr ⟨go, fun σ' H' => ∃ m', m' < m + 1 ∧ ∃ r h s, r1.Le r ∧ Kp r1 H1 r H' ∧ RH C r H' h ∧ RS r H' s σ' ∧ Out C r H' D (forL t (fun σ h => ex p call w sb σ h) k0 m' (i + 1) s h), fun σ' H' z => z, fun x H3 yl3 => ?_⟩
              obtain ⟨k3, rh3, p3⟩ := yl x H3 yl3
              have o3 : Out C r2 H2 D (asgT (.bad 137) t a s2 h2 (fun σ => VRS.rec (fun σ h => forL t (fun σ h => ex p call w sb σ h) k0 m (i + 1) σ h) .rt (fun σ h => .nx σ h) (fun σ h => forL t (fun σ h => ex p call w sb σ h) k0 m (i + 1) σ h) .bad (ex p call w sb σ h2))) := o2
              rw [asgT_eq] at o3
              cases hx : asgT none t a s2 h2 some with
              | none => rw [hx] at o3; exact False.elim o3
              | some s3 =>
                rw [hx] at o3
                refine ⟨r2, h2, s2, a, s3, rh3 h2 rh2, rs2.mono (Rf.Le.refl _) k3, p3, hx, fun σ3 rs3 _ => ⟨r2, h2, s3, rh3 h2 rh2, rs3, ?_⟩⟩
                refine turn_out (Out.mono (Rf.Le.refl _) k3 o3) fun s4 h4 σ4 H4 r4 l4 k4 rh4 rs4 o4 => ?_
                exact ⟨m, Nat.lt_succ_self _, r4, h4, s4, l2.trans l4, (k2.trans k3).trans k4, rh4, rs4, Out.mono l4 k4 o4⟩
end
end
end VI
namespace VI
open PySem PySem.Spec PyProof.Rows L2
noncomputable section
/-! ### a thing beside the evaluation -/
/-- D is tracked, and no object of the evaluation -/
theorem Kp.other {r r' : Rf} {H H' : Hp} {a : Addr} {o : HO} (k : Kp r H r' H') (h : H a = none) : Kp r H r' (upd H' a o) :=
  ⟨fun b xs e => by rw [upd_ne (ne_of_none e h)]; exact k.tup b xs e, fun b q u e => by rw [upd_ne (ne_of_none e h)]; exact k.frz b q u e,
    fun b q e e2 => ⟨by rw [upd_ne (ne_of_none e h)]; exact (k.ap b q e e2).1, (k.ap b q e e2).2⟩⟩
theorem RH.other {C : Ct} {r : Rf} {H : Hp} {h : VH} {a : Addr} {q o : HO} (x : RH C r H h) (ha : ∀ k, r.ρ k ≠ some a) (hH : H a = some q) (h1 : ∀ xs, q ≠ .tup xs) (h2 : ∀ p u, q ≠ .frz p u) : RH C r (upd H a o) h ∧ Kq H (upd H a o) := by
  have kq : Kq H (upd H a o) := ⟨fun b xs e => by rw [upd_ne (fun z => by subst z; rw [hH] at e; cases e; exact h1 xs rfl)]; exact e, fun b p u e => by rw [upd_ne (fun z => by subst z; rw [hH] at e; cases e; exact h2 _ _ rfl)]; exact e⟩
  refine ⟨⟨x.G, x.w, fun k p e => ?_, x.inj, x.lim, fun k b e => ?_⟩, kq⟩
  · obtain ⟨b, e1, z⟩ := x.obj k p e
    have hb : b ≠ a := fun z => ha k (z ▸ e1)
    refine ⟨b, e1, ?_⟩
    have eb : upd H a o b = H b := upd_ne hb
    cases p with
    | lst s => obtain ⟨xs, g1, g2⟩ := z; exact ⟨xs, eb.trans g1, g2.monoq (Rf.Le.refl r) kq⟩
    | dct s =>
      rcases z with ⟨kvs, g1, g2, g3⟩ | ⟨kvs, g1, g2, g3⟩
      · exact .inl ⟨kvs, eb.trans g1, g2, g3.monoq (Rf.Le.refl r) kq⟩
      · exact .inr ⟨kvs, eb.trans g1, g2, g3.monoq (Rf.Le.refl r) kq⟩
    | ins c fs => obtain ⟨A, dx, fl, g1, g2, g3, g4⟩ := z; exact ⟨A, dx, fl, g1, eb.trans g2, g3, g4.monoq (Rf.Le.refl r) kq⟩
  · have hb : b ≠ a := fun z => ha k (z ▸ e)
    rw [upd_ne hb]; exact x.live k b e
theorem revA_ok {r : Rf} {H : Hp} : ∀ {c d : U} {xs ys : List V}, RpL r H c xs → RpL r H d ys → RpL r H (c.revA d) (xs.reverse ++ ys)
  | .nil, d, xs, ys, h, h2 => by cases (show xs = [] from h); exact h2
  | .cons a b, d, xs, ys, h, h2 => by
    obtain ⟨x, zs, rfl, p1, p2⟩ := h
    have := revA_ok (c := b) (d := .cons a d) p2 (show RpL r H (.cons a d) (x :: ys) from ⟨x, ys, rfl, p1, h2⟩)
    rw [List.reverse_cons, List.append_assoc]
    exact this
  | .non, _, _, _, h, _ => False.elim h
  | .bl _, _, _, _, h, _ => False.elim h
  | .int _, _, _, _, h, _ => False.elim h
  | .str _, _, _, _, h, _ => False.elim h
  | .tup _ _, _, _, _, h, _ => False.elim h
  | .vl _ _, _, _, _, h, _ => False.elim h
  | .vd _, _, _, _, h, _ => False.elim h
  | .ref _, _, _, _, h, _ => False.elim h
  | .gf _, _, _, _, h, _ => False.elim h
  | .clo _ _, _, _, _, h, _ => False.elim h
section
variable {C : Ct} {X : Cx} {p : Prog} {call : Nat → U → VH → VR}
/-- a list of tests -/
def STs (C : Ct) (X : Cx) (ifs : List Expr) (f : Sem) : Prop := ∀ c, PTs X ifs (tST C (f c))
theorem _root_.L2.PTs.weak {X : Cx} {e : List Expr} {t t' : TT} (h : PTs X e t) (w : ∀ σ H Q, t' σ H Q → t σ H Q) : PTs X e t' := ⟨fun pins s σ H Q I q => h.run pins s σ H Q I (w σ H Q q)⟩
theorem st_nil : STs C X [] (ev p call (.cst (.bl true))) := fun c => pts_nil.weak fun σ H Q ⟨r, h, s, u, h', b, rh, rs, e, et, q⟩ => by
  cases (show VR.one (.bl true) h = .one u h' from e)
  cases (show some true = some b from et)
  exact q r H (Rf.Le.refl r) (Kp.refl H) rh
theorem st_one {a : Expr} {ea : VE} (h : SB C X a (ev p call ea)) : STs C X [a] (ev p call ea) := fun c => pts_one (h c)
/-! ### a comprehension's clauses -/
def wips : List Nat → VE → VE
  | [], r => r
  | i :: l, r => wips l (.wip i r)
theorem ev_wips : ∀ (l : List Nat) (r : VE) (c : U) (s : VS) (h : VH), ev p call (wips l r) c s h = ev p call r c (unsetL s l) h
  | [], r, c, s, h => rfl
  | i :: l, r, c, s, h => by
    show ev p call (wips l (.wip i r)) c s h = _
    rw [ev_wips l]; rfl
/-- a clause that only adds -/
def Grows (f : Sem) : Prop := ∀ c s h u h', f c s h = .one u h' → c.len ≤ u.len
theorem grows_end (e : VE) : Grows (ev p call (.cend e)) := fun c s h u h' z => by
  obtain ⟨x, h1, _, z⟩ := bind_one z
  cases (show VR.one (.cons x c) h1 = .one u h' from z)
  exact Nat.le_succ _
theorem grows_if {a : VE} {r : VE} (g : Grows (ev p call r)) : Grows (ev p call (.cif a r)) := fun c s h u h' z => by
  obtain ⟨x, h1, _, z⟩ := bind_one z
  rw [true_eq] at z
  cases hx : truth x h1 with
  | none => rw [hx] at z; cases z
  | some d =>
    rw [hx] at z
    cases d with
    | true => exact g c s h1 u h' z
    | false => cases (show VR.one c h1 = .one u h' from z); exact Nat.le_refl _
theorem cforV_cons {t : VT} {f : Sem} {a b c : U} {s : VS} {h : VH} : cforV t f (.cons a b) c s h = asgT (.bad 126) t a s h (fun s' => VR.bind (f c s' h) (fun c h => cforV t f b c s h)) := rfl
theorem grows_forV {t : VT} {f : Sem} (g : Grows f) : ∀ (sp c : U) (s : VS) (h : VH) (u : U) (h' : VH), cforV t f sp c s h = .one u h' → c.len ≤ u.len
  | .cons a b, c, s, h, u, h', z => by
    rw [cforV_cons, asgT_eq] at z
    cases hx : asgT none t a s h some with
    | none => rw [hx] at z; cases z
    | some s' =>
      rw [hx] at z
      obtain ⟨c1, h1, z1, z⟩ := bind_one z
      exact Nat.le_trans (g c s' h c1 h1 z1) (grows_forV g b c1 s h1 u h' z)
  | .nil, c, s, h, u, h', z => by cases (show VR.one c h = .one u h' from z); exact Nat.le_refl _
  | .non, c, s, h, u, h', z => by cases (show VR.one c h = .one u h' from z); exact Nat.le_refl _
  | .bl _, c, s, h, u, h', z => by cases (show VR.one c h = .one u h' from z); exact Nat.le_refl _
  | .int _, c, s, h, u, h', z => by cases (show VR.one c h = .one u h' from z); exact Nat.le_refl _
  | .str _, c, s, h, u, h', z => by cases (show VR.one c h = .one u h' from z); exact Nat.le_refl _
  | .tup _ _, c, s, h, u, h', z => by cases (show VR.one c h = .one u h' from z); exact Nat.le_refl _
  | .vl _ _, c, s, h, u, h', z => by cases (show VR.one c h = .one u h' from z); exact Nat.le_refl _
  | .vd _, c, s, h, u, h', z => by cases (show VR.one c h = .one u h' from z); exact Nat.le_refl _
  | .ref _, c, s, h, u, h', z => by cases (show VR.one c h = .one u h' from z); exact Nat.le_refl _
  | .gf _, c, s, h, u, h', z => by cases (show VR.one c h = .one u h' from z); exact Nat.le_refl _
  | .clo _ _, c, s, h, u, h', z => by cases (show VR.one c h = .one u h' from z); exact Nat.le_refl _
theorem cforL_succ {t : VT} {f : Sem} {k w i : Nat} {c : U} {s : VS} {h : VH} : cforL t f k (w + 1) i c s h = h.at k (.bad 151) (fun o => VO.rec (fun z => z.nth i (.one c h) (fun a => asgT (.bad 126) t a s h (fun s' => VR.bind (f c s' h) (fun c h => cforL t f k w (i + 1) c s h)))) (fun _ => .bad 151) (fun _ _ => .bad 151) o) := rfl
/-- one turn over a list that may change -/
theorem cforL_one {t : VT} {f : Sem} {k w i : Nat} {c : U} {s : VS} {h : VH} {u : U} {h' : VH} (e : cforL t f k w i c s h = .one u h') : ∃ z w', w = w' + 1 ∧ h.find? k = some (.lst z) ∧
    ((nthU z i = none ∧ u = c ∧ h' = h) ∨ ∃ a s' c1 h1, nthU z i = some a ∧ asgT none t a s h some = some s' ∧ f c s' h = .one c1 h1 ∧ cforL t f k w' (i + 1) c1 s h1 = .one u h') := by
  cases w with
  | zero => cases e
  | succ w =>
    rw [cforL_succ, VH.at_eq] at e
    cases hk : h.find? k with
    | none => rw [hk] at e; cases e
    | some o =>
      rw [hk] at e
      cases o with
      | dct z => cases e
      | ins c fs => cases e
      | lst z =>
        have e : z.nth i (.one c h) (fun a => asgT (.bad 126) t a s h (fun s' => VR.bind (f c s' h) (fun c h => cforL t f k w (i + 1) c s h))) = .one u h' := e
        rw [nth_eq] at e
        refine ⟨z, w, rfl, rfl, ?_⟩
        cases hn : nthU z i with
        | none => rw [hn] at e; cases e; exact .inl ⟨rfl, rfl, rfl⟩
        | some a =>
          rw [hn] at e
          have e : asgT (.bad 126) t a s h (fun s' => VR.bind (f c s' h) (fun c h => cforL t f k w (i + 1) c s h)) = .one u h' := e
          rw [asgT_eq] at e
          cases hx : asgT none t a s h some with
          | none => rw [hx] at e; cases e
          | some s' =>
            rw [hx] at e
            obtain ⟨c1, h1, z1, e⟩ := bind_one e
            exact .inr ⟨a, s', c1, h1, rfl, hx, z1, e⟩
theorem grows_forL {t : VT} {f : Sem} (g : Grows f) {k : Nat} : ∀ (w i : Nat) (c : U) (s : VS) (h : VH) (u : U) (h' : VH), cforL t f k w i c s h = .one u h' → c.len ≤ u.len
  | 0, i, c, s, h, u, h', e => by cases e
  | w + 1, i, c, s, h, u, h', e => by
    obtain ⟨z, w', ew, hk, e⟩ := cforL_one e
    cases ew
    rcases e with ⟨_, rfl, _⟩ | ⟨a, s', c1, h1, _, _, e1, e2⟩
    · exact Nat.le_refl _
    · exact Nat.le_trans (g c s' h c1 h1 e1) (grows_forL g w (i + 1) c1 s h1 u h' e2)
/-! ### a list comprehension -/
/-- what is still to be gone through: of a measure m, at place i, behind the acc c in the heap h -/
structure Todo (C : Ct) (y : Bool) (J : It) (r1 : Rf) (H1 : Hp) (t : VT) (f : Sem) (s : VS) (cf : U) (hf : VH) (T : Nat → Nat → U → VH → Prop) : Prop where
  len : ∀ m i c h, T m i c h → c.len ≤ cf.len
  step : ∀ m i c h r H, T m i c h → r1.Le r → Kq H1 H → RH C r H h → (J.stop i H ∧ c = cf ∧ h = hf) ∨
    ∃ a s' c1 h1 m', m' < m ∧ (J.go i H ∧ ∀ x H', J.yld i H x H' → Kp r H r H' ∧ (∀ h, RH C r H h → RH C r H' h) ∧ RpB y r H' a x) ∧ asgT none t a s h some = some s' ∧ f c s' h = .one c1 h1 ∧ T m' (i + 1) c1 h1
theorem todoV {y : Bool} {J : It} {r1 : Rf} {H1 : Hp} {t : VT} {f : Sem} {s : VS} {cf : U} {hf : VH} {s0 : U} (g : Grows f) (at_ : ∀ i r H, r1.Le r → Kq H1 H → At C y J r H s0 i) :
    Todo C y J r1 H1 t f s cf hf (fun m i c h => ∃ sp, Left s0 i sp ∧ m = sp.len ∧ cforV t f sp c s h = .one cf hf) where
  len := fun m i c h ⟨sp, _, _, e⟩ => grows_forV g sp c s h cf hf e
  step := fun m i c h r H ⟨sp, lf, em, e⟩ l k rh => by
    have a2 := at_ i r H l k
    have e0 : nthU sp 0 = nthU s0 i := lf 0
    cases sp with
    | cons a b =>
      rw [cforV_cons, asgT_eq] at e
      cases hx : asgT none t a s h some with
      | none => rw [hx] at e; cases e
      | some s' =>
        rw [hx] at e
        obtain ⟨c1, h1, z1, e⟩ := bind_one e
        exact .inr ⟨a, s', c1, h1, b.len, by rw [em]; exact Nat.lt_succ_self _, a2.1 a (e0.symm.trans rfl), hx, z1, b, lf.next, rfl, e⟩
    | _ =>
      cases (show VR.one c h = .one cf hf from e)
      exact .inl ⟨a2.2 (e0.symm.trans rfl), rfl, rfl⟩
theorem todoL {y : Bool} {J : It} {r1 : Rf} {H1 : Hp} {t : VT} {f : Sem} {s : VS} {cf : U} {hf : VH} {k0 : Nat} (g : Grows f) (at_ : ∀ i r H h z, r1.Le r → Kq H1 H → RH C r H h → h.find? k0 = some (.lst z) → At C y J r H z i) :
    Todo C y J r1 H1 t f s cf hf (fun m i c h => cforL t f k0 m i c s h = .one cf hf) where
  len := fun m i c h e => grows_forL g m i c s h cf hf e
  step := fun m i c h r H e l k rh => by
    obtain ⟨z, w', rfl, hk, e⟩ := cforL_one e
    have a2 := at_ i r H h z l k rh hk
    rcases e with ⟨e1, rfl, rfl⟩ | ⟨a, s', c1, h1, e1, e2, e3, e4⟩
    · exact .inl ⟨a2.2 e1, rfl, rfl⟩
    · exact .inr ⟨a, s', c1, h1, w', Nat.lt_succ_self _, a2.1 a e1, e2, e3, e4⟩
/-- the readings of what stands within: whatever the acc -/
def tSx (C : Ct) (f : Sem) : TE := fun σ H Q => ∃ c, tS C (f c) σ H Q
def tSTx (C : Ct) (f : Sem) : TT := fun σ H Q => ∃ c, tST C (f c) σ H Q
theorem pe_x {e : Expr} {f : Sem} (h : SE C X e f) : PE X e (tSx C f) := ⟨fun pins s σ H Q I ⟨c, q⟩ => (h c).run pins s σ H Q I q⟩
theorem pts_x {e : List Expr} {f : Sem} (h : STs C X e f) : PTs X e (tSTx C f) := ⟨fun pins s σ H Q I ⟨c, q⟩ => (h c).run pins s σ H Q I q⟩
variable {elt it tg : Expr} {ifs : List Expr} {scope : Scope} {own : List (Str × Nat)} {pos : Pos} {t : VT} {ea ec ee : VE}
theorem lc_turns {y0 : Bool} {J : It} {r1 : Rf} {H1 : Hp} {s : VS} {σ : L2.St} {cf : U} {hf h1 : VH} {T : Nat → Nat → U → VH → Prop} {m0 : Nat} {Q : VK} {vs : List Nat}
    (td : Todo C y0 J r1 H1 t (ev p call (.cif ec (.cend ee))) (unsetL s vs) cf hf T) (hv : ∀ i ∈ t.slots, i ∈ vs) (t0 : T m0 0 .nil h1) (rh1 : RH C r1 H1 h1) (rs1 : RS r1 H1 s σ) (hlen : cf.len ≤ 100000)
    (q : ∀ r H D acc, r1.Le r → Kp r1 H1 r H → RH C r H hf → (∀ k, r.ρ k ≠ some D) → H1 D = none → H D = some (.lst acc) → RpL r H cf acc.reverse → Q (.ref D) H) :
    ∀ D, H1 D = none → ∃ W : Nat → Nat → Hp → Prop, (∃ m, W 0 m (upd H1 D (.lst []))) ∧ ∀ i m H, W i m H →
      (J.stop i H ∧ Q (.ref D) H) ∨ (J.go i H ∧ ∃ Nx : Hp → Prop, (∀ H', Nx H' → ∃ m', m' < m ∧ W (i + 1) m' H') ∧ ∀ x H', J.yld i H x H' → tSG C y0 t x (L2.wipe σ vs) H' fun σ2 H2 => L2.wipe σ2 vs = L2.wipe σ vs ∧ tSTx C (ev p call ec) σ2 H2 fun b H3 =>
        if b = true then tSx C (ev p call ee) σ2 H3 fun y H4 => ∃ acc, H4 D = some (.lst acc) ∧ acc.length < sizeLine ∧ Nx (upd H4 D (.lst (acc ++ [y]))) else Nx H3) := by
  intro D hD
  have lst_t : ∀ {xs : List V} ys, HO.lst xs ≠ .tup ys := fun _ z => by cases z
  have lst_f : ∀ {xs : List V} q u, HO.lst xs ≠ .frz q u := fun _ _ z => by cases z
  have d0 : ∀ k, r1.ρ k ≠ some D := fun k e => by obtain ⟨o, z⟩ := rh1.live k D e; rw [hD] at z; cases z
  refine ⟨fun i m H => ∃ r h c acc, T m i c h ∧ r1.Le r ∧ Kp r1 H1 r H ∧ RH C r H h ∧ (∀ k, r.ρ k ≠ some D) ∧ H D = some (.lst acc) ∧ RpL r H c acc.reverse, ⟨m0, r1, h1, .nil, [], t0, Rf.Le.refl _, Kp.new hD, rh1.more (new_keeps hD), d0, upd_same, rfl⟩, ?_⟩
  rintro i m H ⟨r, h, c, acc, ht, l, k, rh, hd, hH, hc⟩
  rcases td.step m i c h r H ht l k.q rh with ⟨st, rfl, rfl⟩ | ⟨a, s', c1, h1', m', hm, ⟨go, yl⟩, hx, hf1, ht'⟩
  · exact .inl ⟨st, q r H D acc l k rh hd hD hH hc⟩
  · have lc1 := td.len _ _ _ _ ht'
    refine .inr ⟨go, fun H' => ∃ m', m' < m ∧ ∃ r h c acc, T m' (i + 1) c h ∧ r1.Le r ∧ Kp r1 H1 r H' ∧ RH C r H' h ∧ (∀ k, r.ρ k ≠ some D) ∧ H' D = some (.lst acc) ∧ RpL r H' c acc.reverse, fun H' z => z, fun x H' y => ?_⟩
    obtain ⟨k1, rh', hp1⟩ := yl x H' y
    have rs' : RS r H' (unsetL s vs) (L2.wipe σ vs) := ((rs1.mono l k).mono (Rf.Le.refl _) k1).wipe vs |>.1
    refine ⟨r, h, unsetL s vs, a, s', rh' h rh, rs', hp1, hx, fun σ2 rs2 on => ⟨?_, ?_⟩⟩
    · have z := on vs hv
      rw [z]
      clear z on rs2 rs'
      -- wiped twice
      have ww : ∀ (l l2 : List Nat) (σ : L2.St), (∀ i ∈ l, i ∈ l2) → L2.wipe (L2.wipe σ l) l2 = L2.wipe σ l2 := by
        intro l
        induction l with
        | nil => intro l2 σ _; rfl
        | cons i l ih =>
          intro l2 σ hi
          show L2.wipe ((L2.wipe σ l).set i none) l2 = _
          rw [wipe_set_mem (hi i (List.mem_cons_self ..)), ih l2 σ fun j hj => hi j (List.mem_cons_of_mem _ hj)]
      exact ww vs vs σ fun _ h => h
    · obtain ⟨tv, ht1, e1, e2⟩ := bind_one hf1
      rw [true_eq] at e2
      cases htr : truth tv ht1 with
      | none => rw [htr] at e2; cases e2
      | some b =>
        rw [htr] at e2
        refine ⟨c, r, h, s', tv, ht1, b, rh' h rh, rs2, e1, htr, fun r3 H3 l3 k3 rh3 => ?_⟩
        have kD := k3.ap D _ ((k1.ap D _ hH hd).1) (k1.ap D _ hH hd).2
        have kk : Kp r1 H1 r3 H3 := (k.trans k1).trans k3
        have ll : r1.Le r3 := l.trans l3
        have hc3 : RpL r3 H3 c acc.reverse := (hc.mono (Rf.Le.refl _) k1).mono l3 k3
        cases b with
        | false =>
          show (if false = true then _ else _)
          rw [if_neg (by decide)]
          cases (show VR.one c ht1 = .one c1 h1' from e2)
          exact ⟨m', hm, r3, _, c, acc, ht', ll, kk, rh3, kD.2, kD.1, hc3⟩
        | true =>
          show (if true = true then _ else _)
          rw [if_pos rfl]
          obtain ⟨y, h4, e3, e2⟩ := bind_one (show VR.bind (ev p call ee c s' ht1) (fun x h => .one (.cons x c) h) = .one c1 h1' from e2)
          cases (show VR.one (.cons y c) h4 = .one c1 h1' from e2)
          refine ⟨c, r3, ht1, s', y, _, rh3, rs2.mono l3 k3, e3, fun r4 H4 v l4 k4 rh4 p4 => ?_⟩
          obtain ⟨d1, d2⟩ := k4.ap D _ kD.1 kD.2
          have hlen' : acc.length < sizeLine := by
            have z := hc.length
            rw [List.length_reverse] at z
            have z2 : (U.cons y c).len = c.len + 1 := rfl
            rw [sizeLine_eq]
            omega
          refine ⟨acc, d1, hlen', m', hm, r4, _, .cons y c, acc ++ [v], ht', ll.trans l4, (kk.trans k4).other hD, (rh4.other d2 d1 lst_t lst_f).1, d2, upd_same, ?_⟩
          rw [List.reverse_append]
          exact ⟨v, acc.reverse, rfl, p4.monoq (Rf.Le.refl _) (rh4.other d2 d1 lst_t lst_f).2, (hc3.mono l4 k4).monoq (Rf.Le.refl _) (rh4.other d2 d1 lst_t lst_f).2⟩
theorem rev_back {r : Rf} {H : Hp} {c : U} {acc : List V} (h : RpL r H c acc.reverse) : RpL r H (c.revA .nil) acc := by
  have := revA_ok (d := .nil) (ys := []) h rfl
  rwa [List.reverse_reverse, List.append_nil] at this
theorem r_lc {y0 : Bool} (hc : X.calm = true) (hN : X.N.Nodup) (hi : SI C X y0 tg it (ev p call ea)) (ok : BlkOk X.N X.env.scope scope own) (hv : ∀ i ∈ t.slots, i ∈ own.map (·.2))
    (hg : ∀ (s : Shared) (H : Hp) (Cc : Addr) (cl : List (Str × Addr)) (fp : List Addr), SG C (X.blk s H scope (compEnvC scope cl Cc X.env) fp) y0 tg t)
    (ht : ∀ (s : Shared) (H : Hp) (Cc : Addr) (cl : List (Str × Addr)) (fp : List Addr), STs C (X.blk s H scope (compEnvC scope cl Cc X.env) fp) ifs (ev p call ec))
    (he : ∀ (s : Shared) (H : Hp) (Cc : Addr) (cl : List (Str × Addr)) (fp : List Addr), SE C (X.blk s H scope (compEnvC scope cl Cc X.env) fp) elt (ev p call ee)) (hs : ∀ x, foldedSetIterable it X.env x = pure x := by intro _; rfl) :
    SE C X (.ListComp elt [⟨tg, it, ifs, 0⟩] scope pos) (ev p call (.comp (wips (own.map (·.2)) (.cfor t ea (.cif ec (.cend ee)))))) := fun cc => by
  refine (PE.frz (pe_lc hc hN hi ok (fun s H Cc cl fp => hg s H Cc cl fp) (fun s H Cc cl fp => pts_x (ht s H Cc cl fp)) (fun s H Cc cl fp => pe_x (he s H Cc cl fp)) hs)).weak fun σ H Q ⟨r, h, s, u, h', rh, rs, e, q⟩ => ?_
  obtain ⟨cf, hf, e1, e⟩ := bind_one e
  obtain ⟨e, hlen⟩ := few_one e (by intro z; cases z)
  cases e
  have e1 : ev p call (wips (own.map (·.2)) (.cfor t ea (.cif ec (.cend ee)))) .nil s h = .one cf h' := e1
  rw [ev_wips] at e1
  obtain ⟨u1, h1, e2, e3⟩ := bind_one (show VR.bind (ev p call ea .nil (unsetL s (own.map (·.2))) h) (fun x h => x.walk h (.bad 122) (fun z => cforV t (fun c σ h => ev p call (.cif ec (.cend ee)) c σ h) z .nil (unsetL s (own.map (·.2))) h) (fun k => cforL t (fun c σ h => ev p call (.cif ec (.cend ee)) c σ h) k 100000 0 .nil (unsetL s (own.map (·.2))) h)) = .one cf h' from e1)
  rw [walk_eq] at e3
  have n : walkOf u1 h1 ≠ none := fun z => by rw [z] at e3; cases e3
  have hl2 : cf.len ≤ 100000 := hlen
  have fin : ∀ r1 H1, r.Le r1 → Kp r H r1 H1 → ∀ r2 H2 D acc, r1.Le r2 → Kp r1 H1 r2 H2 → RH C r2 H2 h' → (∀ k, r2.ρ k ≠ some D) → H1 D = none → H2 D = some (.lst acc) → RpL r2 H2 cf acc.reverse → ∃ a xs, V.ref D = .ref a ∧ H2 a = some (.lst xs) ∧ ∀ o, Q (.ref D) (upd H2 a (.frz o (.lst xs))) := by
    intro r1 H1 l1 k1 r2 H2 D acc l2 k2 rh2 hd h1D h2D hc2
    refine ⟨D, acc, rfl, h2D, fun o => ?_⟩
    obtain ⟨rh3, kq⟩ := rh2.other (o := .frz o (.lst acc)) hd h2D (fun _ z => by cases z) (fun _ _ z => by cases z)
    refine q r2 _ (.ref D) (l1.trans l2) (k1.trans (k2.other h1D)) rh3 (rp_mkL ((rev_back hc2).monoq (Rf.Le.refl _) kq) upd_same)
  refine ⟨r, h, unsetL s (own.map (·.2)), u1, h1, rh, (rs.wipe _).2, e2, n, fun r1 H1 J l1 k1 rh1 wk => ?_⟩
  have rs1 := rs.mono l1 k1
  cases hw : walkOf u1 h1 with
  | none => exact absurd hw n
  | some y =>
    rw [hw] at e3
    cases y with
    | inl s0 => exact lc_turns (Q := fun v H1 => ∃ a xs, v = .ref a ∧ H1 a = some (.lst xs) ∧ ∀ o, Q v (upd H1 a (.frz o (.lst xs)))) (todoV (grows_if (grows_end _)) (wk.1 s0 hw)) hv ⟨s0, Left.zero s0, rfl, e3⟩ rh1 rs1 hl2 (fin r1 H1 l1 k1)
    | inr k0 => exact lc_turns (Q := fun v H1 => ∃ a xs, v = .ref a ∧ H1 a = some (.lst xs) ∧ ∀ o, Q v (upd H1 a (.frz o (.lst xs)))) (todoL (grows_if (grows_end _)) (wk.2 k0 hw)) hv e3 rh1 rs1 hl2 (fin r1 H1 l1 k1)
end
end
end VI
namespace VI
open PySem PySem.Spec PyProof.Rows L2
noncomputable section
theorem key_str {n m : Nat} (h1 : encL (charsL n) = n) (h2 : encL (charsL m) = m) : Nat.beq n m = decide (dec n = dec m) := by
  cases hb : Nat.beq n m with
  | true => rw [nat_beq_iff.mp hb]; exact (decide_eq_true rfl).symm
  | false => exact (decide_eq_false fun e => nat_beq_false hb (dec_inj h1 h2 e)).symm
theorem key_bl (c d : Bool) : Says (eqU (.bl c) (.bl d)) (NestedKey.beq (.num (VI.b2i c)) (.num (VI.b2i d))) := by
  rw [NestedKey.beq]
  show Says (tri (beqB c d)) _
  refine says_tri ?_
  cases c <;> cases d <;> rfl
theorem key_ok : ∀ a : U, (∀ x (b : U) y, nK a = some x → nK b = some y → Says (eqU a b) (NestedKey.beq x y)) ∧ (∀ xs (b : U) ys, nL a = some xs → nL b = some ys → Says (eqU a b) (NestedKey.beqAll xs ys)) := by
  intro a
  induction a with
  | non =>
    refine ⟨fun x b y h1 h2 => ?_, fun xs b ys h => by cases h⟩
    cases h1
    cases b <;> first
      | (cases h2; done)
      | (cases h2; exact ⟨fun _ => rfl, (fun z => by cases z)⟩)
      | (cases h2; exact ⟨(fun z => by cases z), fun _ => rfl⟩)
      | (obtain ⟨rfl, _⟩ := nK_str h2; exact ⟨(fun z => by cases z), fun _ => rfl⟩)
      | (obtain ⟨_, rfl, _⟩ := nK_tup h2; exact says_dno)
  | nil =>
    refine ⟨(fun x b y h1 => by cases h1), fun xs b ys h1 h2 => ?_⟩
    cases h1
    cases b with
    | nil => cases h2; exact ⟨fun _ => rfl, (fun z => by cases z)⟩
    | cons c t => obtain ⟨_, _, rfl, _, _⟩ := nL_cons h2; exact ⟨(fun z => by cases z), fun _ => rfl⟩
    | _ => cases h2
  | cons a r iha ihr =>
    refine ⟨(fun x b y h1 => by cases h1), fun xs b ys h1 h2 => ?_⟩
    obtain ⟨x, xs', rfl, h3, h4⟩ := nL_cons h1
    cases b with
    | nil => cases h2; exact ⟨(fun z => by cases z), fun _ => rfl⟩
    | cons c t =>
      obtain ⟨y, ys', rfl, h5, h6⟩ := nL_cons h2
      have q1 := iha.1 x c y h3 h5
      have q2 := ihr.2 xs' t ys' h4 h6
      show Says (Tri.rec .no (eqU r t) .unk (eqU a c)) _
      rw [NestedKey.beqAll]
      cases he : eqU a c with
      | no => rw [q1.2 he, Bool.false_and]; exact ⟨(fun z => by cases z), fun _ => rfl⟩
      | yes => rw [q1.1 he, Bool.true_and]; exact q2
      | unk => exact says_unk
    | _ => cases h2
  | bl c =>
    refine ⟨fun x b y h1 h2 => ?_, fun xs b ys h => by cases h⟩
    cases h1
    cases b <;> first
      | (cases h2; done)
      | (cases h2; exact says_no)
      | (cases h2; rw [NestedKey.beq]; exact says_tri (beqI_eq _ _))
      | (rename_i d; cases h2; exact key_bl c d)
      | (obtain ⟨rfl, _⟩ := nK_str h2; exact says_no)
      | (obtain ⟨_, rfl, _⟩ := nK_tup h2; exact says_dno)
  | int i =>
    refine ⟨fun x b y h1 h2 => ?_, fun xs b ys h => by cases h⟩
    cases h1
    cases b <;> first
      | (cases h2; done)
      | (cases h2; exact says_no)
      | (cases h2; rw [NestedKey.beq]; exact says_tri (beqI_eq _ _))
      | (cases h2; rw [NestedKey.beq]; exact says_tri (beqI_eq _ _))
      | (obtain ⟨rfl, _⟩ := nK_str h2; exact says_no)
      | (obtain ⟨_, rfl, _⟩ := nK_tup h2; exact says_dno)
  | str n =>
    refine ⟨fun x b y h1 h2 => ?_, fun xs b ys h => by cases h⟩
    obtain ⟨rfl, e1⟩ := nK_str h1
    cases b <;> first
      | (cases h2; done)
      | (cases h2; exact says_no)
      | (obtain ⟨rfl, e2⟩ := nK_str h2; rw [NestedKey.beq]; refine says_tri ?_; exact key_str e1 e2)
      | (obtain ⟨_, rfl, _⟩ := nK_tup h2; exact says_dno)
  | tup p s ih =>
    refine ⟨fun x b y h1 h2 => ?_, fun xs b ys h => by cases h⟩
    obtain ⟨xs, rfl, e1⟩ := nK_tup h1
    cases p with
    | zero => exact says_unk
    | succ p =>
      cases b with
      | tup q t =>
        obtain ⟨ys, rfl, e2⟩ := nK_tup h2
        cases q with
        | zero => exact says_unk
        | succ q => rw [NestedKey.beq]; exact ih.2 xs t ys e1 e2
      | str n => obtain ⟨rfl, _⟩ := nK_str h2; exact says_no
      | non => cases h2; exact says_no
      | bl c => cases h2; exact says_no
      | int i => cases h2; exact says_no
      | _ => cases h2
  | _ => exact ⟨(fun x b y h1 => by cases h1), (fun xs b ys h1 => by cases h1)⟩
/-! ### asking a dict -/
def dlk (s x : U) : Option (Option U) := dget s x none (some none) (fun v => some (some v))
theorem dget_cons {α : Type} (k v r x : U) (z a : α) (f : U → α) : dget (.cons k (.cons v r)) x z a f = (Tri.rec (dget r x z a f) (f v) z (eqU k x) : α) := rfl
theorem dget_eq {α : Type} : ∀ (s x : U) (z a : α) (f : U → α), dget s x z a f = match dlk s x with | none => z | some none => a | some (some v) => f v
  | .cons k (.cons v r), x, z, a, f => by
    show dget (.cons k (.cons v r)) x z a f = match dget (.cons k (.cons v r)) x none (some none) (fun v => some (some v)) with | none => z | some none => a | some (some v) => f v
    rw [dget_cons, dget_cons]
    cases eqU k x with
    | no => exact dget_eq r x z a f
    | yes => rfl
    | unk => rfl
  | .cons _ .nil, _, _, _, _ => rfl
  | .cons _ .non, _, _, _, _ => rfl
  | .cons _ (.bl _), _, _, _, _ => rfl
  | .cons _ (.int _), _, _, _, _ => rfl
  | .cons _ (.str _), _, _, _, _ => rfl
  | .cons _ (.tup _ _), _, _, _, _ => rfl
  | .cons _ (.vl _ _), _, _, _, _ => rfl
  | .cons _ (.vd _), _, _, _, _ => rfl
  | .cons _ (.ref _), _, _, _, _ => rfl
  | .cons _ (.gf _), _, _, _, _ => rfl
  | .cons _ (.clo _ _), _, _, _, _ => rfl
  | .nil, _, _, _, _ => rfl
  | .non, _, _, _, _ => rfl
  | .bl _, _, _, _, _ => rfl
  | .int _, _, _, _, _ => rfl
  | .str _, _, _, _, _ => rfl
  | .tup _ _, _, _, _, _ => rfl
  | .vl _ _, _, _, _, _ => rfl
  | .vd _, _, _, _, _ => rfl
  | .ref _, _, _, _, _ => rfl
  | .gf _, _, _, _, _ => rfl
  | .clo _ _, _, _, _, _ => rfl
theorem dgetC_eq {α : Type} (s x : U) (z a : α) (f : U → α) : dgetC s x z a f = if dOk s x = true then (match dlk s x with | none => z | some none => a | some (some v) => f v) else z := by
  show (Bool.rec z (dget s x z a f) (dOk s x) : α) = _
  cases dOk s x with
  | true => rw [if_pos rfl]; exact dget_eq s x z a f
  | false => rw [if_neg (by decide)]
theorem dgetC_one {s x w : U} {h' : VH} {n : Nat} {a : VR} {f : U → VR} (e : dgetC s x (.bad n) a f = .one w h') : dOk s x = true ∧ ((dlk s x = some none ∧ a = .one w h') ∨ ∃ v, dlk s x = some (some v) ∧ f v = .one w h') := by
  rw [dgetC_eq] at e
  by_cases ok : dOk s x = true
  · rw [if_pos ok] at e
    refine ⟨ok, ?_⟩
    cases hq : dlk s x with
    | none => rw [hq] at e; cases e
    | some o =>
      rw [hq] at e
      cases o with
      | none => exact .inl ⟨rfl, e⟩
      | some v => exact .inr ⟨v, rfl, e⟩
  · rw [if_neg ok] at e; cases e
section
variable {r : Rf} {H : Hp}
theorem rp_int {u : U} {i : Int} (h : Rp r H u (.int i)) : u = .int i := by
  cases u with
  | int j => cases (show V.int i = .int j from h); rfl
  | non => cases (show V.int i = .non from h)
  | bl b => cases (show V.int i = .bl b from h)
  | str n => obtain ⟨_, e, _⟩ := (show ∃ x, V.int i = .str x ∧ StrIs n x from h); cases e
  | tup d s => obtain ⟨_, _, _, e, _⟩ := h; cases e
  | vl d s => obtain ⟨_, _, _, e, _⟩ := h; cases e
  | vd s => obtain ⟨_, _, e, _⟩ := h; cases e
  | ref k => obtain ⟨_, e, _⟩ := h; cases e
  | gf k => obtain ⟨_, e, _⟩ := h; cases e
  | nil => exact False.elim h
  | cons _ _ => exact False.elim h
  | clo _ _ => exact False.elim h
theorem rp_str {u : U} {x : Str} (h : Rp r H u (.str x)) : ∃ n, u = .str n ∧ StrIs n x := by
  cases u with
  | str n => obtain ⟨y, e, q⟩ := (show ∃ y, V.str x = .str y ∧ StrIs n y from h); cases e; exact ⟨n, rfl, q⟩
  | int j => cases (show V.str x = .int j from h)
  | non => cases (show V.str x = .non from h)
  | bl b => cases (show V.str x = .bl b from h)
  | tup d s => obtain ⟨_, _, _, e, _⟩ := h; cases e
  | vl d s => obtain ⟨_, _, _, e, _⟩ := h; cases e
  | vd s => obtain ⟨_, _, e, _⟩ := h; cases e
  | ref k => obtain ⟨_, e, _⟩ := h; cases e
  | gf k => obtain ⟨_, e, _⟩ := h; cases e
  | nil => exact False.elim h
  | cons _ _ => exact False.elim h
  | clo _ _ => exact False.elim h
/-- keys that are texts or ints, compared -/
theorem eqU_key {a b : U} {k1 k2 : Key} (h1 : Rp r H a (kV k1)) (h2 : Rp r H b (kV k2)) : eqU a b = tri (decide (k1 = k2)) := by
  cases k1 with
  | inl i =>
    cases rp_int (show Rp r H a (.int i) from h1)
    cases k2 with
    | inl j =>
      cases rp_int (show Rp r H b (.int j) from h2)
      show tri (beqI i j) = _
      rw [beqI_eq]
      congr 1
      exact decide_eq_decide.mpr ⟨fun e => by rw [e], fun e => by cases e; rfl⟩
    | inr y =>
      obtain ⟨n, rfl, _⟩ := rp_str (show Rp r H b (.str y) from h2)
      rw [decide_eq_false (by intro z; cases z)]; rfl
  | inr x =>
    obtain ⟨n, rfl, q⟩ := rp_str (show Rp r H a (.str x) from h1)
    cases k2 with
    | inl j =>
      cases rp_int (show Rp r H b (.int j) from h2)
      rw [decide_eq_false (by intro z; cases z)]; rfl
    | inr y =>
      obtain ⟨m, rfl, q2⟩ := rp_str (show Rp r H b (.str y) from h2)
      show tri (Nat.beq n m) = _
      rw [key_str q.2.1 q2.2.1, ← q.1, ← q2.1]
      congr 1
      exact decide_eq_decide.mpr ⟨fun e => by rw [e], fun e => by cases e; rfl⟩
/-- two at the head of a spine -/
theorem rpl_two {s : U} {a b : V} {l : List V} (h : RpL r H s (a :: b :: l)) : ∃ x y t, s = .cons x (.cons y t) ∧ Rp r H x a ∧ Rp r H y b ∧ RpL r H t l := by
  cases s with
  | cons x q =>
    obtain ⟨v, vs, e, h1, h2⟩ := h
    cases e
    cases q with
    | cons y t => obtain ⟨v, vs, e, h3, h4⟩ := h2; cases e; exact ⟨x, y, t, rfl, h1, h3, h4⟩
    | nil => cases (show b :: l = [] from h2)
    | _ => exact False.elim h2
  | nil => cases (show a :: b :: l = [] from h)
  | _ => exact False.elim h
theorem flatK_cons (p : Key × V) (l : List (Key × V)) : flatK (p :: l) = kV p.1 :: p.2 :: flatK l := rfl
theorem flatN_cons (p : NE) (l : List NE) : flatN (p :: l) = .ref p.2.1 :: p.2.2 :: flatN l := rfl
theorem dlk_cons (k v t x : U) : dlk (.cons k (.cons v t)) x = (Tri.rec (dlk t x) (some (some v)) none (eqU k x) : Option (Option U)) := rfl
/-- a look at texts and ints -/
theorem dlk_plain {y : U} {k : Key} (hy : Rp r H y (kV k)) : ∀ {kvs : List (Key × V)} {s : U}, RpL r H s (flatK kvs) → (dlk s y = some none → valV kvs k = none) ∧ ∀ u, dlk s y = some (some u) → ∃ v, valV kvs k = some v ∧ Rp r H u v
  | [], s, h => by
    rw [spine_nil h]
    exact ⟨fun _ => rfl, fun u e => by cases (show some none = some (some u) from e)⟩
  | p :: l, s, h => by
    obtain ⟨x, q, t, rfl, h1, h2, h3⟩ := rpl_two h
    obtain ⟨i1, i2⟩ := dlk_plain hy h3
    rw [dlk_cons, eqU_key h1 hy]
    by_cases e : p.1 = k
    · rw [decide_eq_true e]
      exact ⟨fun z => (by cases z), fun u z => by cases z; exact ⟨p.2, valV_pos e, h2⟩⟩
    · rw [decide_eq_false e]
      exact ⟨fun z => (valV_neg e).trans (i1 z), fun u z => by obtain ⟨v, g1, g2⟩ := i2 u z; exact ⟨v, (valV_neg e).trans g1, g2⟩⟩
def valN (kvs : List NE) (k : NestedKey) : Option V := (kvs.find? fun p => decide (p.1 = k)).map (·.2.2)
theorem valN_pos {p : NE} {l : List NE} {k : NestedKey} (e : p.1 = k) : valN (p :: l) k = some p.2.2 := by simp [valN, List.find?_cons, e]
theorem valN_neg {p : NE} {l : List NE} {k : NestedKey} (e : ¬ p.1 = k) : valN (p :: l) k = valN l k := by simp [valN, List.find?_cons, e]
theorem nKs_cons {k v t : U} {l : List NestedKey} (h : nKs (.cons k (.cons v t)) = some l) : ∃ x xs, l = x :: xs ∧ nK k = some x ∧ nKs t = some xs := by
  have h : (match nK k, nKs t with | some x, some xs => some (x :: xs) | _, _ => none) = some l := h
  split at h
  · rename_i x xs e1 e2; cases h; exact ⟨x, xs, rfl, e1, e2⟩
  · cases h
theorem nKs_of_cons {k v t : U} {x : NestedKey} {xs : List NestedKey} (h1 : nK k = some x) (h2 : nKs t = some xs) : nKs (.cons k (.cons v t)) = some (x :: xs) := by
  show (match nK k, nKs t with | some x, some xs => some (x :: xs) | _, _ => none) = _
  rw [h1, h2]
theorem dlk_nest {y : U} {k : NestedKey} (hy : nK y = some k) : ∀ {kvs : List NE} {s : U}, nKs s = some (kvs.map (·.1)) → RpL r H s (flatN kvs) → (dlk s y = some none → valN kvs k = none) ∧ ∀ u, dlk s y = some (some u) → ∃ v, valN kvs k = some v ∧ Rp r H u v
  | [], s, _, h => by
    rw [spine_nil h]
    exact ⟨fun _ => rfl, fun u e => by cases (show some none = some (some u) from e)⟩
  | p :: l, s, hn, h => by
    obtain ⟨x, q, t, rfl, h1, h2, h3⟩ := rpl_two h
    obtain ⟨kx, ks, e1, n1, n2⟩ := nKs_cons hn
    cases e1
    obtain ⟨i1, i2⟩ := dlk_nest hy n2 h3
    have sy := (key_ok x).1 _ y k n1 hy
    rw [dlk_cons]
    cases hq : eqU x y with
    | no =>
      have e : ¬ p.1 = k := fun z => by
        have this : NestedKey.beq p.1 k = false := sy.2 hq
        rw [z, NestedKey.beq_self] at this; cases this
      exact ⟨fun z => (valN_neg e).trans (i1 z), fun u z => by obtain ⟨v, g1, g2⟩ := i2 u z; exact ⟨v, (valN_neg e).trans g1, g2⟩⟩
    | yes =>
      have e : p.1 = k := NestedKey.eq_of_beq _ _ (sy.1 hq)
      exact ⟨fun z => (by cases z), fun u z => by cases z; exact ⟨p.2.2, valN_pos e, h2⟩⟩
    | unk => exact ⟨fun z => (by cases z), fun u z => (by cases z)⟩
theorem valN_rel {k : NestedKey} : ∀ {kvs : List NE} {xs : List NEv}, Paired EntR kvs xs → RelO (valN kvs k) ((atKey xs k).map (·.2))
  | _, _, .nil => True.intro
  | _, _, .cons (a := p) (b := q) (l₁ := l) (l₂ := m) h t => by
    obtain ⟨h1, _, h2⟩ := h
    have ih := valN_rel (k := k) t
    by_cases e : p.1 = k
    · have e' : q.1 = k := h1.symm.trans e
      have b : atKey (q :: m) k = some q.2 := by simp [atKey, List.find?_cons, e']
      rw [valN_pos e, b]; exact h2
    · have e' : ¬ q.1 = k := fun z => e (h1.trans z)
      have b : atKey (q :: m) k = atKey m k := by simp [atKey, List.find?_cons, e']
      rw [valN_neg e, b]; exact ih
/-! ### keys in the heap -/
theorem keyI_ok : ∀ u : U, (∀ v, Rp r H u v → keyI u = true → ∃ k, nK u = some k) ∧ (∀ xs, RpL r H u xs → keyI u = true → ∃ ks, nL u = some ks)
  | .non => ⟨fun _ _ _ => ⟨.none, rfl⟩, fun _ h => False.elim h⟩
  | .bl b => ⟨fun _ _ _ => ⟨_, rfl⟩, fun _ h => False.elim h⟩
  | .int i => ⟨fun _ _ _ => ⟨_, rfl⟩, fun _ h => False.elim h⟩
  | .str n => ⟨fun v h _ => by
      obtain ⟨x, _, hx⟩ := (show ∃ x, v = .str x ∧ StrIs n x from h)
      refine ⟨.text (dec n), ?_⟩
      show (if encL (charsL n) = n ∧ PyData.strOk (dec n) = true then some (NestedKey.text (dec n)) else none) = _
      rw [if_pos ⟨hx.2.1, by rw [← hx.1]; exact hx.2.2⟩], fun _ h => False.elim h⟩
  | .nil => ⟨fun _ h => False.elim h, fun _ _ _ => ⟨[], rfl⟩⟩
  | .cons a b => ⟨fun _ h => False.elim h, fun xs ⟨x, ys, _, h1, h2⟩ z => by
      have z : (Bool.rec false (keyI b) (keyI a) : Bool) = true := z
      cases ha : keyI a with
      | false => rw [ha] at z; cases z
      | true =>
        rw [ha] at z
        obtain ⟨k, e1⟩ := (keyI_ok a).1 x h1 ha
        obtain ⟨ks, e2⟩ := (keyI_ok b).2 ys h2 z
        refine ⟨k :: ks, ?_⟩
        show (match (NK a).1, (NK b).2 with | some x, some xs => some (x :: xs) | _, _ => none) = _
        rw [show (NK a).1 = some k from e1, show (NK b).2 = some ks from e2]⟩
  | .tup d s => ⟨fun v ⟨a, o, xs, _, _, _, h2, _⟩ z => by
      obtain ⟨ks, e⟩ := (keyI_ok s).2 xs h2 z
      refine ⟨.tup ks, ?_⟩
      show (NK s).2.map NestedKey.tup = _
      rw [show (NK s).2 = some ks from e]; rfl, fun _ h => False.elim h⟩
  | .vl _ _ => ⟨fun _ _ z => (by cases z), fun _ h => False.elim h⟩
  | .vd _ => ⟨fun _ _ z => (by cases z), fun _ h => False.elim h⟩
  | .ref _ => ⟨fun _ _ z => (by cases z), fun _ h => False.elim h⟩
  | .gf _ => ⟨fun _ _ z => (by cases z), fun _ h => False.elim h⟩
  | .clo _ _ => ⟨fun _ h => False.elim h, fun _ h => False.elim h⟩
theorem key_depth : ∀ u : U, (∀ k d, nK u = some k → uD u = some d → k.depth ≤ d.depth) ∧ (∀ ks ds, nL u = some ks → uL u = some ds → NestedKey.depthAll ks ≤ PyData.depthAll ds)
  | .non => ⟨fun k d h _ => (by cases h; simp [NestedKey.depth]), fun _ _ h => (by cases h)⟩
  | .bl b => ⟨fun k d h _ => (by cases h; simp [NestedKey.depth]), fun _ _ h => (by cases h)⟩
  | .int i => ⟨fun k d h _ => (by cases h; simp [NestedKey.depth]), fun _ _ h => (by cases h)⟩
  | .str n => ⟨fun k d h _ => (by obtain ⟨rfl, _⟩ := nK_str h; simp [NestedKey.depth]), fun _ _ h => (by cases h)⟩
  | .nil => ⟨fun _ _ h => (by cases h), fun ks ds h1 h2 => by cases h1; simp [NestedKey.depthAll]⟩
  | .cons a b => ⟨fun _ _ h => (by cases h), fun ks ds h1 h2 => by
      obtain ⟨x, xs, rfl, e1, e2⟩ := nL_cons h1
      obtain ⟨y, ys, rfl, f1, f2⟩ := uL_cons h2
      have := (key_depth a).1 x y e1 f1
      have := (key_depth b).2 xs ys e2 f2
      rw [NestedKey.depthAll, PyData.depthAll]
      omega⟩
  | .tup d s => ⟨fun k e h1 h2 => by
      obtain ⟨xs, rfl, e1⟩ := nK_tup h1
      obtain ⟨ys, rfl, e2⟩ := uD_tup h2
      have := (key_depth s).2 xs ys e1 e2
      rw [NestedKey.depth, PyData.depth]
      omega, fun _ _ h => (by cases h)⟩
  | .vl _ _ => ⟨fun _ _ h => (by cases h), fun _ _ h => (by cases h)⟩
  | .vd _ => ⟨fun _ _ h => (by cases h), fun _ _ h => (by cases h)⟩
  | .ref _ => ⟨fun _ _ h => (by cases h), fun _ _ h => (by cases h)⟩
  | .gf _ => ⟨fun _ _ h => (by cases h), fun _ _ h => (by cases h)⟩
  | .clo _ _ => ⟨fun _ _ h => (by cases h), fun _ _ h => (by cases h)⟩
theorem nest_of {P : Program} {w : World} {sh : Heap} (ok : HOk P w H sh) : ∀ u : U, (∀ v val k, Rp r H u v → RelV v val → nK u = some k → NestedIs sh k val) ∧ (∀ xs vals ks, RpL r H u xs → Vals xs vals → nL u = some ks → NestedAll sh ks vals)
  | .non => ⟨fun v val k h rv e => by cases (show v = .non from h); cases e; cases (show val = .none from rv); exact .none, fun _ _ _ h => False.elim h⟩
  | .bl b => ⟨fun v val k h rv e => by cases (show v = .bl b from h); cases e; cases (show val = .bool b from rv); exact .bool (b2i_eq b), fun _ _ _ h => False.elim h⟩
  | .int i => ⟨fun v val k h rv e => by cases (show v = .int i from h); cases e; obtain ⟨t, rfl⟩ := (show ∃ t, val = Value.int i t from rv); exact .int i t, fun _ _ _ h => False.elim h⟩
  | .str n => ⟨fun v val k h rv e => by
      obtain ⟨x, rfl, hx⟩ := (show ∃ x, v = .str x ∧ StrIs n x from h)
      obtain ⟨rfl, _⟩ := nK_str e
      obtain ⟨t, rfl⟩ := (show ∃ t, val = Value.str x t from rv)
      rw [← hx.1]; exact .text x t, fun _ _ _ h => False.elim h⟩
  | .nil => ⟨fun _ _ _ h => False.elim h, fun xs vals ks h rv e => by cases (show xs = [] from h); cases rv; cases e; exact .nil⟩
  | .cons a b => ⟨fun _ _ _ h => False.elim h, fun xs vals ks ⟨x, ys, e0, h1, h2⟩ rv e => by
      subst e0
      obtain ⟨k, ks', rfl, e1, e2⟩ := nL_cons e
      cases rv with
      | cons r1 r2 => exact .cons ((nest_of ok a).1 x _ k h1 r1 e1) ((nest_of ok b).2 ys _ ks' h2 r2 e2)⟩
  | .tup d s => ⟨fun v val k ⟨a, o, xs, e0, h1, _, h2, _⟩ rv e => by
      subst e0
      cases rv
      obtain ⟨ks, rfl, e1⟩ := nK_tup e
      obtain ⟨_, _, its, rv2, o2, g1, g2, n, g3⟩ := ok a _ h1
      exact .tup g1 g2 g3 (by simpa using (nest_of ok s).2 xs its ks h2 rv2 e1), fun _ _ _ h => False.elim h⟩
  | .vl _ _ => ⟨fun _ _ _ _ _ e => (by cases e), fun _ _ _ h => False.elim h⟩
  | .vd _ => ⟨fun _ _ _ _ _ e => (by cases e), fun _ _ _ h => False.elim h⟩
  | .ref _ => ⟨fun _ _ _ _ _ e => (by cases e), fun _ _ _ h => False.elim h⟩
  | .gf _ => ⟨fun _ _ _ _ _ e => (by cases e), fun _ _ _ h => False.elim h⟩
  | .clo _ _ => ⟨fun _ _ _ h => False.elim h, fun _ _ _ h => False.elim h⟩
end
end
end VI
namespace VI
open PySem PySem.Spec PyProof.Rows L2
noncomputable section
/-! ### a dict as it stands -/
/-- x is a dict, of the keys and values s -/
def IsD (x : U) (h : VH) (s : U) : Prop := x = .vd s ∨ ∃ j, x = .ref j ∧ h.find? j = some (.dct s)
theorem noIsD {h : VH} {j : Nat} {o : Option VO} (hk : h.find? j = o) (ho : ∀ s, o ≠ some (.dct s)) : ∀ s, ¬ IsD (.ref j) h s := by
  intro s z
  rcases z with z | ⟨i, z, z2⟩
  · cases z
  · cases z
    rw [hk] at z2
    exact ho s z2
theorem dict_cases {α : Type} (u : U) (h : VH) (z : α) (f : U → α) : (∃ s, IsD u h s ∧ u.dict h z f = f s) ∨ ((∀ s, ¬ IsD u h s) ∧ u.dict h z f = z) := by
  cases u with
  | vd s => exact .inl ⟨s, .inl rfl, rfl⟩
  | ref j =>
    have e : (U.ref j).dict h z f = h.at j z (fun o => VO.rec (fun _ => z) f (fun _ _ => z) o) := rfl
    rw [e, VH.at_eq]
    cases hk : h.find? j with
    | none => exact .inr ⟨noIsD hk (by intro s z; cases z), rfl⟩
    | some o =>
      cases o with
      | dct s => exact .inl ⟨s, .inr ⟨j, rfl, hk⟩, rfl⟩
      | lst s => exact .inr ⟨noIsD hk (by intro s z; cases z), rfl⟩
      | ins c fs => exact .inr ⟨noIsD hk (by intro s z; cases z), rfl⟩
  | _ => exact .inr ⟨(fun s z => by rcases z with z | ⟨_, z, _⟩ <;> cases z), rfl⟩
theorem dict_one {u : U} {h h' : VH} {f : U → VR} {n : Nat} {w : U} (e : u.dict h (.bad n) f = .one w h') : ∃ s, IsD u h s ∧ f s = .one w h' := by
  rcases dict_cases u h (VR.bad n) f with ⟨s, d, e'⟩ | ⟨_, e'⟩
  · rw [e'] at e; exact ⟨s, d, e⟩
  · rw [e'] at e; cases e
/-- .. in the abstract heap -/
def DRep (r : Rf) (H : Hp) (a : Addr) (s : U) : Prop := (∃ kvs, Rd H a (.dK kvs) ∧ (kvs.map (·.1)).Nodup ∧ RpL r H s (flatK kvs)) ∨ ∃ kvs, Rd H a (dN r.w a kvs) ∧ (kvs ≠ [] ∧ nKs s = some (kvs.map (·.1))) ∧ RpL r H s (flatN kvs)
theorem drep_of {C : Ct} {r : Rf} {H : Hp} {h : VH} {x s : U} {v : V} (rh : RH C r H h) (hx : Rp r H x v) (d : IsD x h s) : ∃ a, v = .ref a ∧ DRep r H a s := by
  rcases d with rfl | ⟨j, rfl, hk⟩
  · obtain ⟨a, o, e, q⟩ := hx
    exact ⟨a, e, q.imp (fun ⟨kvs, h1, h2, h3⟩ => ⟨kvs, .inr ⟨o, h1⟩, h2, h3⟩) fun ⟨kvs, h1, h2, h3⟩ => ⟨kvs, .inr ⟨o, h1⟩, h2, h3⟩⟩
  · obtain ⟨a, e, ha⟩ := hx
    obtain ⟨a', e2, q⟩ := rh.obj j _ hk
    rw [ha] at e2; cases e2
    exact ⟨a, e, q.imp (fun ⟨kvs, h1, h2, h3⟩ => ⟨kvs, .inl h1, h2, h3⟩) fun ⟨kvs, h1, h2, h3⟩ => ⟨kvs, .inl h1, h2, h3⟩⟩
theorem RO.drep {C : Ct} {r : Rf} {H : Hp} {a : Addr} {s : U} (q : RO C r H a (.dct s)) : DRep r H a s := q.imp (fun ⟨kvs, h1, h2, h3⟩ => ⟨kvs, .inl h1, h2, h3⟩) fun ⟨kvs, h1, h2, h3⟩ => ⟨kvs, .inl h1, h2, h3⟩
theorem kk_cases (y : U) : kkind y = 0 ∨ (kkind y = 1 ∧ ((∃ i, y = .int i) ∨ ∃ n, y = .str n)) ∨ (kkind y = 2 ∧ ∃ d s, y = .tup (d + 1) s ∧ keyI s = true ∧ d + 1 ≤ 8) := by
  cases y with
  | int i => exact .inr (.inl ⟨rfl, .inl ⟨i, rfl⟩⟩)
  | str n => exact .inr (.inl ⟨rfl, .inr ⟨n, rfl⟩⟩)
  | tup d s =>
    cases d with
    | zero => exact .inl rfl
    | succ d =>
      have e : kkind (.tup (d + 1) s) = (Bool.rec 0 (Bool.rec 0 2 (keyI s)) (Nat.ble (d + 1) 8) : Nat) := rfl
      cases hb : Nat.ble (d + 1) 8 with
      | false => rw [e, hb]; exact .inl rfl
      | true =>
        cases hk : keyI s with
        | false => rw [e, hb, hk]; exact .inl rfl
        | true => rw [e, hb, hk]; exact .inr (.inr ⟨rfl, d, s, rfl, hk, Nat.ble_eq.mp hb⟩)
  | _ => exact .inl rfl
theorem dOk_one {s y : U} (ok : dOk s y = true) : kkind y ≠ 0 ∧ ∀ k t, s = .cons k t → kkind k = kkind y := by
  have e : dOk s y = (Nat.rec false (fun m _ => s.cs true (fun k _ => Nat.beq (kkind k) (Nat.succ m))) (kkind y) : Bool) := rfl
  rw [e] at ok
  cases hk : kkind y with
  | zero => rw [hk] at ok; cases ok
  | succ m =>
    rw [hk] at ok
    refine ⟨Nat.succ_ne_zero _, fun k t es => ?_⟩
    subst es
    exact nat_beq_iff.mp ok
theorem kV_kind {r : Rf} {H : Hp} {u : U} {k : Key} (h : Rp r H u (kV k)) : kkind u = 1 := by
  cases k with
  | inl i => rw [rp_int (show Rp r H u (.int i) from h)]; rfl
  | inr x => obtain ⟨n, rfl, _⟩ := rp_str (show Rp r H u (.str x) from h); rfl
theorem ents_is {P : Program} {w : World} {r : Rf} {H : Hp} {sh : Heap} (ok : HOk P w H sh) : ∀ {kvs : List NE} {s : U}, nKs s = some (kvs.map (·.1)) → RpL r H s (flatN kvs) → ∀ p ∈ kvs, NestedIs sh p.1 (.ref p.2.1)
  | [], _, _, _, p, hp => nomatch hp
  | q :: l, s, hn, h, p, hp => by
    obtain ⟨x, y, t, rfl, h1, h2, h3⟩ := rpl_two h
    obtain ⟨kx, ks, e1, n1, n2⟩ := nKs_cons hn
    cases e1
    rcases List.mem_cons.mp hp with e | hp
    · subst e; exact (nest_of ok x).1 _ _ _ h1 rfl n1
    · exact ents_is ok n2 h3 p hp
theorem paired_mem {α β : Type} {F : α → β → Prop} : ∀ {l : List α} {m : List β}, Paired F l m → ∀ y ∈ m, ∃ x ∈ l, F x y
  | _, _, .nil, y, hy => nomatch hy
  | _, _, .cons h t, y, hy => by
    rcases List.mem_cons.mp hy with e | hy
    · subst e; exact ⟨_, List.mem_cons_self .., h⟩
    · obtain ⟨x, hx, q⟩ := paired_mem t y hy; exact ⟨x, List.mem_cons_of_mem _ hx, q⟩
theorem entr_keys : ∀ {kvs : List NE} {xs : List NEv}, Paired EntR kvs xs → kvs.map (·.1) = xs.map (·.1)
  | _, _, .nil => rfl
  | _, _, .cons h t => by rw [List.map_cons, List.map_cons, entr_keys t, h.1]
/-- the tuple dict's own object, as the library tells it -/
theorem dN_of {P : Program} {w : World} {r : Rf} {H : Hp} {sh : Heap} {a : Addr} {kvs : List NE} {s : U} (ok : HOk P w H sh) (h : Rd H a (dN w a kvs)) (hn : nKs s = some (kvs.map (·.1))) (hs : RpL r H s (flatN kvs)) :
    (kvs.length ≤ sizeLine ∧ (a == sysModules) = false ∧ (∀ p ∈ kvs, p.1.depth ≤ 8) ∧ (kvs.map (·.1)).Nodup) ∧ ∃ xs, Paired EntR kvs xs ∧ sh.DictOfH (nestedKind P w) a xs := by
  obtain ⟨⟨f, xs, rel, o, es, ep, h1, h2, h3, h4⟩, _⟩ := h.ok ok
  refine ⟨f, xs, rel, o, es, ep, h1, h2, h3, h4, fun x hx => ?_, by rw [← entr_keys rel]; exact f.2.2.2⟩
  obtain ⟨p, hp, e1, e2, _⟩ := paired_mem rel x hx
  refine ⟨?_, by rw [← e1]; exact f.2.2.1 p hp⟩
  rw [← e1, ← e2]
  exact ents_is ok hn hs p hp
theorem dN_ok {P : Program} {w : World} {H : Hp} {sh : Heap} {a : Addr} {kvs : List NE} {xs : List NEv} (f : kvs.length ≤ sizeLine ∧ (a == sysModules) = false ∧ (∀ p ∈ kvs, p.1.depth ≤ 8) ∧ (kvs.map (·.1)).Nodup) (rel : Paired EntR kvs xs) (d : sh.DictOfH (nestedKind P w) a xs) : ObjOk P w H sh a (dN w a kvs) := by
  obtain ⟨o, es, ep, h1, h2, h3, h4, _, _⟩ := d
  refine ⟨⟨f, xs, rel, o, es, ep, h1, h2, h3, h4⟩, ⟨o, h1⟩, fun g1 g2 ⟨f, xs, rel, o, es, ep, h1, h⟩ k => ⟨f, xs, rel, o, es, ep, k o h1, h⟩⟩
/-- what is known of a dict and a key that may be asked -/
inductive DView (P : Program) (w : World) (r : Rf) (H : Hp) (sh : Heap) (a : Addr) (s y : U) (vy : V) (wy : Value) : Prop
  | plain (kvs : List (Key × V)) (vs : List (Key × Value)) (k : Key) (e : vy = kV k) (hk : (mixKind P w).is k wy = true) (nd : (kvs.map (·.1)).Nodup) (hs : RpL r H s (flatK kvs)) (rel : KV kvs vs) (d : sh.DictOf (mixKind P w) a vs) (z : kvs.length ≤ sizeLine) (w' : Rd H a (.dK kvs) ∨ kvs = [])
  | keyed (kvs : List NE) (xs : List NEv) (k : NestedKey) (b : Addr) (e : vy = .ref b) (ew : wy = .ref b) (hn : nK y = some k) (hk : (nestedKind P w).is sh k b) (hk8 : k.depth ≤ 8) (hns : nKs s = some (kvs.map (·.1))) (hs : RpL r H s (flatN kvs)) (rel : Paired EntR kvs xs) (d : sh.DictOfH (nestedKind P w) a xs) (f : kvs.length ≤ sizeLine ∧ (a == sysModules) = false ∧ (∀ p ∈ kvs, p.1.depth ≤ 8) ∧ (kvs.map (·.1)).Nodup)
theorem dview {P : Program} {w : World} {r : Rf} {H : Hp} {sh : Heap} {a : Addr} {s y : U} {vy : V} {wy : Value} (ok : HOk P w H sh) (hw : r.w = w) (d : DRep r H a s) (hy : Rp r H y vy) (ry : RelV vy wy) (hq : dOk s y = true) : (a == sysModules) = false ∧ DView P w r H sh a s y vy wy := by
  obtain ⟨k0, hf⟩ := dOk_one hq
  -- the key
  have key : (kkind y = 1 ∧ ∃ k, vy = kV k) ∨ (kkind y = 2 ∧ ∃ k b, vy = .ref b ∧ wy = .ref b ∧ nK y = some k ∧ k.depth ≤ 8 ∧ (nestedKind P w).is sh k b) := by
    rcases kk_cases y with e | ⟨e, ⟨i, rfl⟩ | ⟨n, rfl⟩⟩ | ⟨e, dd, ss, rfl, hki, hle⟩
    · exact absurd e k0
    · exact .inl ⟨e, .inl i, hy⟩
    · obtain ⟨x, hx, _⟩ := (show ∃ x, vy = .str x ∧ StrIs n x from hy); exact .inl ⟨e, .inr x, hx⟩
    · refine .inr ⟨e, ?_⟩
      obtain ⟨k, hk⟩ := (keyI_ok (.tup (dd + 1) ss)).1 vy hy hki
      obtain ⟨b, o, xs, rfl, h1, h0, h2, h3⟩ := id hy
      obtain ⟨ds, e1, _, l1, _⟩ := h3 (Nat.succ_ne_zero _)
      obtain ⟨ks, rfl, e2⟩ := nK_tup hk
      have hd := (key_depth ss).2 ks ds e2 e1
      have h8 : NestedKey.depth (.tup ks) ≤ 8 := by rw [NestedKey.depth]; omega
      exact ⟨.tup ks, b, rfl, ry, hk, h8, (nest_of ok (.tup (dd + 1) ss)).1 _ _ _ hy (show RelV (.ref b) (.ref b) from rfl) hk, h8⟩
  subst hw
  rcases d with ⟨kvs, hH, nd, hs⟩ | ⟨kvs, hH, ⟨hne, hns⟩, hs⟩
  · obtain ⟨z, hm, vs, rel, dd⟩ := dk_rd ok hH
    refine ⟨hm, ?_⟩
    rcases key with ⟨e, k, ev⟩ | ⟨e, k, b, e1, e2, e3, e4, e5⟩
    · exact .plain kvs vs k ev (kV_is (by rw [← ev]; exact ry)) nd hs rel dd z (.inl hH)
    · cases kvs with
      | cons p l =>
        obtain ⟨x, q, t, rfl, h1, _⟩ := rpl_two hs
        have z1 := kV_kind h1
        have z2 := hf _ _ rfl
        omega
      | nil =>
        cases rel
        obtain ⟨o, es, ep, g1, g2, g3, g4, g5, g6⟩ := dd
        have : es.toList = [] := by cases hq : es.toList with
          | nil => rfl
          | cons a b => rw [hq] at g5; cases g5
        rw [spine_nil hs]
        exact .keyed [] [] k b e1 e2 e3 e5 e4 rfl rfl .nil ⟨o, es, ep, g1, g2, g3, this, (fun _ h => nomatch h), List.nodup_nil⟩ ⟨Nat.zero_le _, hm, (fun _ h => nomatch h), List.nodup_nil⟩
  · obtain ⟨f, xs, rel, dd⟩ := dN_of (P := P) ok hH hns hs
    refine ⟨f.2.1, ?_⟩
    rcases key with ⟨e, k, ev⟩ | ⟨e, k, b, e1, e2, e3, e4, e5⟩
    · cases kvs with
      | cons p l =>
        obtain ⟨x, q, t, rfl, h1, _⟩ := rpl_two hs
        obtain ⟨_, _, _, n1, _⟩ := nKs_cons hns
        have z2 := hf _ _ rfl
        rcases kk_cases x with z | ⟨z, ⟨i, rfl⟩ | ⟨n, rfl⟩⟩ | ⟨z, _⟩
        · omega
        · cases (show V.ref _ = .int i from h1)
        · obtain ⟨_, z, _⟩ := (show ∃ x, V.ref _ = .str x ∧ StrIs n x from h1); cases z
        · omega
      | nil => exact absurd rfl hne
    · exact .keyed kvs xs k b e1 e2 e3 e5 e4 hns hs rel dd f
/-- what the look tells -/
theorem DView.look {P : Program} {w : World} {r : Rf} {H : Hp} {sh : Heap} {a : Addr} {s y : U} {vy : V} {wy : Value} (d : DView P w r H sh a s y vy wy) (hy : Rp r H y vy) :
    ∃ ow : Option Value, (dlk s y = some none → ow = none) ∧ (∀ u, dlk s y = some (some u) → ∃ wv v, ow = some wv ∧ RelV v wv ∧ Rp r H u v) ∧
      ((∃ vs k, (mixKind P w).is k wy = true ∧ sh.DictOf (mixKind P w) a vs ∧ ow = valueAt vs k) ∨ ∃ xs k b, wy = .ref b ∧ (nestedKind P w).is sh k b ∧ sh.DictOfH (nestedKind P w) a xs ∧ ow = (atKey xs k).map (·.2)) := by
  cases d with
  | plain kvs vs k e hk nd hs rel dd z =>
    subst e
    obtain ⟨q1, q2⟩ := dlk_plain hy hs
    refine ⟨valueAt vs k, fun z => ?_, fun u z => ?_, .inl ⟨vs, k, hk, dd, rfl⟩⟩
    · have := rel.val k; rw [q1 z] at this; exact RelO.none_of this
    · obtain ⟨v, g1, g2⟩ := q2 u z
      obtain ⟨wv, e1, e2⟩ := RelO.some_of (v := v) (o := valueAt vs k) (by rw [← g1]; exact rel.val k)
      exact ⟨wv, v, e1, e2, g2⟩
  | keyed kvs xs k b e ew hn hk hk8 hns hs rel dd f =>
    obtain ⟨q1, q2⟩ := dlk_nest hn hns hs
    refine ⟨(atKey xs k).map (·.2), fun z => ?_, fun u z => ?_, .inr ⟨xs, k, b, ew, hk, dd, rfl⟩⟩
    · have := valN_rel (k := k) rel; rw [q1 z] at this; exact RelO.none_of this
    · obtain ⟨v, g1, g2⟩ := q2 u z
      obtain ⟨wv, e1, e2⟩ := RelO.some_of (v := v) (o := (atKey xs k).map (·.2)) (by rw [← g1]; exact valN_rel rel)
      exact ⟨wv, v, e1, e2, g2⟩
section
variable {C : Ct} {X : Cx} {k : Nat} {A : Around} {E : Value → Shared → Prop} {pins : List (Addr × Obj)} {σ : L2.St} {r : Rf} {H : Hp} {s : Shared} {a : Addr} {s0 y : U} {vy : V} {wy : Value}
theorem nroom (hu : A.units + 9 < cLine) : (nestedKind X.prog X.w).room A.in1 := by show A.units + 1 + 8 < cLine; omega
/-- d[y], there -/
theorem dv_get {Q : Value → Shared → Prop} {u : U} (hu : A.units + 9 < cLine) (I : Inv X pins σ H s) (hw : r.w = X.w) (d : DRep r H a s0) (hy : Rp r H y vy) (ry : RelV vy wy) (ok : dOk s0 y = true) (hl : dlk s0 y = some (some u)) (h : ∀ wv v s', Inv X pins σ H s' → RelV v wv → Rp r H u v → Q wv s') :
    wpAny (model X.prog X.w) A (getItem (.ref a) wy) Q E s := by
  obtain ⟨_, dv⟩ := dview (P := X.prog) I.hok hw d hy ry ok
  obtain ⟨ow, _, q2, q3⟩ := dv.look hy
  obtain ⟨wv, v, rfl, e2, e3⟩ := q2 u hl
  rcases q3 with ⟨vs, kk, h1, h2, h3⟩ | ⟨xs, kk, b, rfl, h1, h2, h3⟩
  · exact wpAny_getItem_of h1 h2.mapOf h3.symm (h wv v _ (I.tok _) e2 e3)
  · obtain ⟨p, hp, e4⟩ := Option.map_eq_some_iff.mp h3.symm
    refine wpAny_getItem_heap (nroom hu) h1 h2 hp ?_
    rw [e4]
    exact h wv v _ (I.tok _) e2 e3
/-- y in d -/
theorem dv_in {Q : Value → Shared → Prop} {o : Option U} (hu : A.units + 9 < cLine) (I : Inv X pins σ H s) (hw : r.w = X.w) (d : DRep r H a s0) (hy : Rp r H y vy) (ry : RelV vy wy) (ok : dOk s0 y = true) (hl : dlk s0 y = some o) (h : ∀ s', Inv X pins σ H s' → Q (.bool o.isSome) s') :
    wpAny (model X.prog X.w) A (compareOp .In wy (.ref a)) Q E s := by
  obtain ⟨hm, dv⟩ := dview (P := X.prog) I.hok hw d hy ry ok
  obtain ⟨ow, q1, q2, q3⟩ := dv.look hy
  have e : ow.isSome = o.isSome := by
    cases o with
    | none => rw [q1 hl]; rfl
    | some u => obtain ⟨wv, v, e, _⟩ := q2 u hl; rw [e]; rfl
  rcases q3 with ⟨vs, kk, h1, h2, h3⟩ | ⟨xs, kk, b, rfl, h1, h2, h3⟩
  · refine wpAny_in_of h1 hm h2.mapOf ?_
    rw [← h3, e]; exact h _ (I.tok _)
  · refine wpAny_in_heap (nroom hu) h1 hm h2 ?_
    rw [h3, Option.isSome_map] at e
    rw [e]; exact h _ (I.tok _)
theorem dv_notIn {Q : Value → Shared → Prop} {o : Option U} (hu : A.units + 9 < cLine) (I : Inv X pins σ H s) (hw : r.w = X.w) (d : DRep r H a s0) (hy : Rp r H y vy) (ry : RelV vy wy) (ok : dOk s0 y = true) (hl : dlk s0 y = some o) (h : ∀ s', Inv X pins σ H s' → Q (.bool (!o.isSome)) s') :
    wpAny (model X.prog X.w) A (compareOp .NotIn wy (.ref a)) Q E s := by
  obtain ⟨hm, dv⟩ := dview (P := X.prog) I.hok hw d hy ry ok
  obtain ⟨ow, q1, q2, q3⟩ := dv.look hy
  have e : ow.isSome = o.isSome := by
    cases o with
    | none => rw [q1 hl]; rfl
    | some u => obtain ⟨wv, v, e, _⟩ := q2 u hl; rw [e]; rfl
  rcases q3 with ⟨vs, kk, h1, h2, h3⟩ | ⟨xs, kk, b, rfl, h1, h2, h3⟩
  · refine wpAny_notIn_of h1 hm h2.mapOf ?_
    rw [← h3, e]; exact h _ (I.tok _)
  · refine notIn_keyed (nroom hu) h1 hm ⟨xs, h2, rfl⟩ ?_
    rw [valueAt_pairsH, Option.isSome_map]
    rw [h3, Option.isSome_map] at e
    rw [e]; exact h _ (I.tok _)
end
end
end VI
namespace VI
open PySem PySem.Spec PyProof.Rows L2
noncomputable section
/-! ### a key stored -/
theorem dput_cons (k v t x y : U) : dput (.cons k (.cons v t)) x y = (Tri.rec (.cons k (.cons v (dput t x y))) (.cons k (.cons y t)) .nil (eqU k x) : U) := rfl
theorem dlen_cons (k v t : U) : dlen (.cons k (.cons v t)) = dlen t + 1 := rfl
theorem dput_nil (x y : U) : dput .nil x y = .cons x (.cons y .nil) := rfl
section
variable {κ : Type} [DecidableEq κ]
theorem putK_pos {p : κ × V} {l : List (κ × V)} {k : κ} {v : V} (e : p.1 = k) (n : ((p :: l).map (·.1)).Nodup) : putK (p :: l) k v = (p.1, v) :: l := by
  have nk : ∀ q ∈ l, q.1 ≠ k := fun q hq z => by
    rw [List.map_cons, List.nodup_cons] at n
    exact n.1 (by rw [e, ← z]; exact List.mem_map_of_mem hq)
  unfold putK
  rw [if_pos (by rw [List.any_cons, decide_eq_true e]; rfl), List.map_cons, if_pos e]
  congr 1
  exact (List.map_congr_left fun q hq => if_neg (nk q hq)).trans (List.map_id'' (fun _ => rfl) l)
theorem putK_neg {p : κ × V} {l : List (κ × V)} {k : κ} {v : V} (e : ¬ p.1 = k) : putK (p :: l) k v = p :: putK l k v := by
  unfold putK
  rw [List.any_cons, decide_eq_false e, Bool.false_or]
  split
  · rw [List.map_cons, if_neg e]
  · rfl
theorem keys_putK {k : κ} {v : V} : ∀ {l : List (κ × V)}, (l.map (·.1)).Nodup → ((putK l k v).map (·.1)).Nodup ∧ ∀ z ∈ (putK l k v).map (·.1), z = k ∨ z ∈ l.map (·.1)
  | [], _ => ⟨by simp [putK], fun z h => by simp [putK] at h; exact .inl h⟩
  | p :: l, n => by
    by_cases e : p.1 = k
    · rw [putK_pos e n]; exact ⟨n, fun z h => .inr h⟩
    · rw [putK_neg e]
      rw [List.map_cons, List.nodup_cons] at n
      obtain ⟨i1, i2⟩ := keys_putK (k := k) (v := v) n.2
      refine ⟨?_, fun z h => ?_⟩
      · rw [List.map_cons, List.nodup_cons]
        refine ⟨fun q => ?_, i1⟩
        rcases i2 _ q with q | q
        · exact e q
        · exact n.1 q
      · rw [List.map_cons, List.mem_cons] at h ⊢
        rcases h with h | h
        · exact .inr (.inl h)
        · exact (i2 z h).imp_right .inr
end
def putNE (k : NestedKey) (b : Addr) (v : V) : List NE → List NE
  | [] => [(k, b, v)]
  | p :: l => if p.1 = k then (p.1, p.2.1, v) :: l else p :: putNE k b v l
theorem putNE_some (k : NestedKey) (b : Addr) (v : V) : ∀ l : List NE, putNE k b v l ≠ []
  | [] => by intro z; cases z
  | p :: l => by
    unfold putNE
    split <;> (intro z; cases z)
theorem putNE_length (k : NestedKey) (b : Addr) (v : V) : ∀ l : List NE, (putNE k b v l).length ≤ l.length + 1
  | [] => Nat.le_refl _
  | p :: l => by
    unfold putNE
    split
    · rw [List.length_cons, List.length_cons]; omega
    · have := putNE_length k b v l
      rw [List.length_cons, List.length_cons]; omega
theorem keys_putNE {k : NestedKey} {b : Addr} {v : V} : ∀ {l : List NE}, (l.map (·.1)).Nodup → ((putNE k b v l).map (·.1)).Nodup ∧ (∀ z ∈ (putNE k b v l).map (·.1), z = k ∨ z ∈ l.map (·.1)) ∧ (k.depth ≤ 8 → (∀ p ∈ l, p.1.depth ≤ 8) → ∀ p ∈ putNE k b v l, p.1.depth ≤ 8)
  | [], _ => ⟨by simp [putNE], fun z h => by simp [putNE] at h; exact .inl h, fun h _ p hp => by simp [putNE] at hp; rw [hp]; exact h⟩
  | p :: l, n => by
    unfold putNE
    by_cases e : p.1 = k
    · rw [if_pos e]
      refine ⟨n, fun z h => .inr h, fun h h2 q hq => ?_⟩
      rcases List.mem_cons.mp hq with z | z
      · rw [z]; exact h2 p (List.mem_cons_self ..)
      · exact h2 q (List.mem_cons_of_mem _ z)
    · rw [if_neg e]
      rw [List.map_cons, List.nodup_cons] at n
      obtain ⟨i1, i2, i3⟩ := keys_putNE (k := k) (b := b) (v := v) n.2
      refine ⟨?_, fun z h => ?_, fun h h2 q hq => ?_⟩
      · rw [List.map_cons, List.nodup_cons]
        refine ⟨fun q => ?_, i1⟩
        rcases i2 _ q with q | q
        · exact e q
        · exact n.1 q
      · rw [List.map_cons, List.mem_cons] at h ⊢
        rcases h with h | h
        · exact .inr (.inl h)
        · exact (i2 z h).imp_right .inr
      · rcases List.mem_cons.mp hq with z | z
        · rw [z]; exact h2 p (List.mem_cons_self ..)
        · exact i3 h (fun q hq => h2 q (List.mem_cons_of_mem _ hq)) q z
theorem stored_rel {k : NestedKey} {b : Addr} {v : V} {wv : Value} (rv : RelV v wv) : ∀ {l : List NE} {m : List NEv}, Paired EntR l m → (m.map (·.1)).Nodup → Paired EntR (putNE k b v l) (storedH m k b wv)
  | _, _, .nil, _ => .cons ⟨rfl, rfl, rv⟩ .nil
  | _, _, .cons (a := p) (b := q) (l₁ := l) (l₂ := m) h t, n => by
    rw [List.map_cons, List.nodup_cons] at n
    unfold putNE
    by_cases e : p.1 = k
    · have e' : q.1 = k := h.1.symm.trans e
      rw [if_pos e, storedH_old (p := q.2) (by simp [atKey, List.find?_cons, e']), List.map_cons, map_putAt_of_not_mem m k wv (by rw [← e']; exact n.1)]
      unfold putAt
      rw [if_pos e']
      exact .cons ⟨h.1, h.2.1, rv⟩ t
    · have e' : ¬ q.1 = k := fun z => e (h.1.trans z)
      rw [if_neg e]
      have ih := stored_rel (k := k) (b := b) rv t n.2
      have : storedH (q :: m) k b wv = q :: storedH m k b wv := by
        unfold storedH
        rw [show atKey (q :: m) k = atKey m k by simp [atKey, List.find?_cons, e']]
        split
        · rw [List.map_cons]; unfold putAt; rw [if_neg e']
        · rfl
      rw [this]
      exact .cons h ih
section
variable {r : Rf} {H : Hp}
theorem dput_plain {y u : U} {k : Key} {v : V} (hy : Rp r H y (kV k)) (hu : Rp r H u v) : ∀ {kvs : List (Key × V)} {s : U}, RpL r H s (flatK kvs) → (kvs.map (·.1)).Nodup → RpL r H (dput s y u) (flatK (putK kvs k v))
  | [], s, h, _ => by
    rw [spine_nil h]
    exact ⟨_, _, rfl, hy, _, _, rfl, hu, rfl⟩
  | p :: l, s, h, n => by
    obtain ⟨x, q, t, rfl, h1, h2, h3⟩ := rpl_two h
    rw [dput_cons, eqU_key h1 hy]
    by_cases e : p.1 = k
    · rw [decide_eq_true e, putK_pos e n]
      exact ⟨_, _, rfl, h1, _, _, rfl, hu, h3⟩
    · rw [decide_eq_false e, putK_neg e]
      rw [List.map_cons, List.nodup_cons] at n
      exact ⟨_, _, rfl, h1, _, _, rfl, h2, dput_plain hy hu h3 n.2⟩
theorem dput_nest {y u : U} {k : NestedKey} {b : Addr} {v : V} (hn : nK y = some k) (hy : Rp r H y (.ref b)) (hu : Rp r H u v) : ∀ {kvs : List NE} {s : U}, nKs s = some (kvs.map (·.1)) → RpL r H s (flatN kvs) → dlk s y ≠ none →
    RpL r H (dput s y u) (flatN (putNE k b v kvs)) ∧ nKs (dput s y u) = some ((putNE k b v kvs).map (·.1))
  | [], s, _, h, _ => by
    rw [spine_nil h]
    exact ⟨⟨_, _, rfl, hy, _, _, rfl, hu, rfl⟩, nKs_of_cons hn rfl⟩
  | p :: l, s, hs, h, nq => by
    obtain ⟨x, q, t, rfl, h1, h2, h3⟩ := rpl_two h
    obtain ⟨kx, ks, e1, n1, n2⟩ := nKs_cons hs
    cases e1
    have sy := (key_ok x).1 _ y k n1 hn
    rw [dlk_cons] at nq
    rw [dput_cons]
    unfold putNE
    cases hq : eqU x y with
    | no =>
      rw [hq] at nq
      have e : ¬ p.1 = k := fun z => by
        have this : NestedKey.beq p.1 k = false := sy.2 hq
        rw [z, NestedKey.beq_self] at this; cases this
      obtain ⟨i1, i2⟩ := dput_nest (b := b) hn hy hu n2 h3 nq
      rw [if_neg e]
      exact ⟨⟨_, _, rfl, h1, _, _, rfl, h2, i1⟩, nKs_of_cons n1 i2⟩
    | yes =>
      have e : p.1 = k := NestedKey.eq_of_beq _ _ (sy.1 hq)
      rw [if_pos e]
      exact ⟨⟨_, _, rfl, h1, _, _, rfl, hu, h3⟩, nKs_of_cons n1 n2⟩
    | unk => rw [hq] at nq; exact absurd rfl nq
theorem dlen_plain : ∀ {kvs : List (Key × V)} {s : U}, RpL r H s (flatK kvs) → dlen s = kvs.length
  | [], s, h => by rw [spine_nil h]; rfl
  | p :: l, s, h => by
    obtain ⟨x, q, t, rfl, h1, h2, h3⟩ := rpl_two h
    rw [dlen_cons, dlen_plain h3]; rfl
theorem dlen_nest : ∀ {kvs : List NE} {s : U}, RpL r H s (flatN kvs) → dlen s = kvs.length
  | [], s, h => by rw [spine_nil h]; rfl
  | p :: l, s, h => by
    obtain ⟨x, q, t, rfl, h1, h2, h3⟩ := rpl_two h
    rw [dlen_cons, dlen_nest h3]; rfl
end
/-- a dict that changes, its object -/
theorem RO.dct_mu {C : Ct} {r : Rf} {H : Hp} {a : Addr} {s : U} (q : RO C r H a (.dct s)) : ∃ o, H a = some o ∧ (∀ xs, o ≠ .tup xs) ∧ (∀ p u, o ≠ .frz p u) ∧ Mut (H a) := by
  rcases q with ⟨kvs, e, _⟩ | ⟨kvs, e, _⟩
  · exact ⟨_, e, (fun _ z => by cases z), (fun _ _ z => by cases z), by rw [e]; exact True.intro⟩
  · exact ⟨_, e, (fun _ z => by cases z), (fun _ _ z => by cases z), by rw [e]; exact True.intro⟩
theorem kq_upd {H : Hp} {a : Addr} {q o : HO} (hH : H a = some q) (h1 : ∀ xs, q ≠ .tup xs) (h2 : ∀ p u, q ≠ .frz p u) : Kq H (upd H a o) :=
  ⟨fun b xs e => by rw [upd_ne (fun z => by subst z; rw [hH] at e; cases e; exact h1 xs rfl)]; exact e, fun b p u e => by rw [upd_ne (fun z => by subst z; rw [hH] at e; cases e; exact h2 _ _ rfl)]; exact e⟩
section
variable {C : Ct} {X : Cx} {k : Nat} {A : Around} {E : Value → Shared → Prop} {pins : List (Addr × Obj)} {σ : L2.St} {r : Rf} {H : Hp} {s : Shared} {a : Addr} {s0 y u : U} {vy v : V} {wy wv : Value}
/-- d[y] = u: the object behind it, and both ways to do it -/
theorem dv_set (I : Inv X pins σ H s) (hw : r.w = X.w) (d : RO C r H a (.dct s0)) (hy : Rp r H y vy) (ry : RelV vy wy) (hu : Rp r H u v) (rv : RelV v wv) (ok : dOk s0 y = true) (hl : dlk s0 y ≠ none) (hz : dlen s0 ≤ 100000) :
    ∃ ob, (∀ H', Kq H H' → H' a = some ob → RO C r H' a (.dct (dput s0 y u))) ∧ ∀ (Q : Unit → Shared → Prop), (∀ s', Inv X pins σ (upd H a ob) s' → Q () s') →
      (A.units + 8 < cLine → wpAny (model X.prog X.w) A (dictSet a wy wv) Q E s) ∧ (A.units + 9 < cLine → wpAny (model X.prog X.w) A (setItem (.ref a) wy wv) Q E s) := by
  obtain ⟨hm, dv⟩ := dview (P := X.prog) I.hok hw d.drep hy ry ok
  obtain ⟨q, hq, _, _, mu⟩ := d.dct_mu
  have hsl : sizeLine = 16777216 := sizeLine_eq
  cases dv with
  | plain kvs vs kk e hk nd hs rel dd z _ =>
    subst e
    have hl2 : kvs.length < sizeLine := by rw [← dlen_plain hs]; omega
    have hlen : (putK kvs kk v).length ≤ sizeLine := by have := length_putK kvs kk v; omega
    refine ⟨.dK (putK kvs kk v), fun H' kq e => .inl ⟨_, e, (keys_putK nd).1, (dput_plain hy hu hs nd).monoq (Rf.Le.refl r) kq⟩, fun Q h => ?_⟩
    have fin : ∀ h' t', h'.DictOf (mixKind X.prog X.w) a (stored vs kk wv) → Heap.SameBut a s.heap h' → Q () { s with heap := h', toks := t' } := fun h' t' dd' hs' => by
      have he : ∃ q, h'.get? a = some q := let ⟨q, _, _, hq, _⟩ := dd'; ⟨q, hq⟩
      exact h _ (d_write I mu hs' he (dk_new hlen hm (rel.put kk rv) dd'))
    have hzv : vs.length ≤ sizeLine := by rw [← rel.length]; exact z
    exact ⟨fun _ => wpAny_dictSet_pairs (hsz := hzv) hk dd fun h' dd' hs' => fin h' _ dd' hs', fun _ => wpAny_setItem_pairs (hsz := hzv) hk dd fun h' dd' hs' => fin h' _ dd' hs'⟩
  | keyed kvs xs kk b e ew hn hk hk8 hns hs rel dd f =>
    subst e ew
    have hl2 : kvs.length < sizeLine := by rw [← dlen_nest hs]; omega
    have hlen : (putNE kk b v kvs).length ≤ sizeLine := by have := putNE_length kk b v kvs; omega
    obtain ⟨p1, p2⟩ := dput_nest (b := b) hn hy hu hns hs hl
    have kp := keys_putNE (k := kk) (b := b) (v := v) f.2.2.2
    refine ⟨dN X.w a (putNE kk b v kvs), fun H' kq e => .inr ⟨_, by rw [hw]; exact e, ⟨putNE_some _ _ _ _, p2⟩, p1.monoq (Rf.Le.refl r) kq⟩, fun Q h => ?_⟩
    have hnx : (xs.map (·.1)).Nodup := by rw [← entr_keys rel]; exact f.2.2.2
    have fin : ∀ h' t', h'.DictOfH (nestedKind X.prog X.w) a (storedH xs kk b wv) → Heap.SameBut a s.heap h' → Q () { s with heap := h', toks := t' } := fun h' t' dd' hs' => by
      have he : ∃ q, h'.get? a = some q := let ⟨q, _, _, hq, _⟩ := dd'; ⟨q, hq⟩
      exact h _ (d_write I mu hs' he (dN_ok (P := X.prog) ⟨hlen, f.2.1, kp.2.2 hk8 f.2.2.1, kp.1⟩ (stored_rel rv rel hnx) dd'))
    have hzx : xs.length ≤ sizeLine := by rw [← Paired.length rel]; exact f.1
    exact ⟨fun hu => wpAny_dictSet_heap (hsz := hzx) hu hk dd fun h' dd' hs' => fin h' _ dd' hs', fun hu => wpAny_setItem_heap (hsz := hzx) (nroom hu) hk dd fun h' dd' hs' => fin h' _ dd' hs'⟩
end
/-! ### a key taken away -/
theorem ddel_cons (k v t x : U) : ddel (.cons k (.cons v t)) x = (Tri.rec (.cons k (.cons v (ddel t x))) t .nil (eqU k x) : U) := rfl
theorem dropK_pos {p : Key × V} {l : List (Key × V)} {k : Key} (e : p.1 = k) (n : ((p :: l).map (·.1)).Nodup) : dropK (p :: l) k = l := by
  rw [List.map_cons, List.nodup_cons] at n
  unfold dropK
  rw [List.filter_cons, if_neg (by simp [e]), List.filter_eq_self]
  intro q hq
  have : q.1 ≠ k := fun z => n.1 (by rw [e, ← z]; exact List.mem_map_of_mem hq)
  simp [this]
theorem dropK_neg {p : Key × V} {l : List (Key × V)} {k : Key} (e : ¬ p.1 = k) : dropK (p :: l) k = p :: dropK l k := by
  unfold dropK
  rw [List.filter_cons, if_pos (by simp [e])]
def dropNE (k : NestedKey) : List NE → List NE
  | [] => []
  | p :: l => if p.1 = k then l else p :: dropNE k l
theorem dropNE_mem {k : NestedKey} : ∀ {l : List NE}, ∀ p ∈ dropNE k l, p ∈ l
  | q :: l, p, hp => by
    unfold dropNE at hp
    split at hp
    · exact List.mem_cons_of_mem _ hp
    · rcases List.mem_cons.mp hp with e | e
      · rw [e]; exact List.mem_cons_self ..
      · exact List.mem_cons_of_mem _ (dropNE_mem p e)
theorem dropNE_keys {k : NestedKey} : ∀ {l : List NE}, (l.map (·.1)).Nodup → ((dropNE k l).map (·.1)).Nodup ∧ (dropNE k l).length ≤ l.length
  | [], _ => ⟨List.nodup_nil, Nat.le_refl _⟩
  | p :: l, n => by
    rw [List.map_cons, List.nodup_cons] at n
    unfold dropNE
    split
    · exact ⟨n.2, Nat.le_succ _⟩
    · obtain ⟨i1, i2⟩ := dropNE_keys (k := k) n.2
      refine ⟨?_, Nat.succ_le_succ i2⟩
      rw [List.map_cons, List.nodup_cons]
      refine ⟨fun z => ?_, i1⟩
      obtain ⟨q, hq, e⟩ := List.mem_map.mp z
      exact n.1 (by rw [← e]; exact List.mem_map_of_mem (dropNE_mem q hq))
theorem dropped_rel {k : NestedKey} : ∀ {l : List NE} {m : List NEv}, Paired EntR l m → (m.map (·.1)).Nodup → Paired EntR (dropNE k l) (withoutH m k)
  | _, _, .nil, _ => .nil
  | _, _, .cons (a := p) (b := q) (l₁ := l) (l₂ := m) h t, n => by
    rw [List.map_cons, List.nodup_cons] at n
    unfold dropNE withoutH
    rw [List.filter_cons]
    by_cases e : p.1 = k
    · have e' : q.1 = k := h.1.symm.trans e
      rw [if_pos e, if_neg (by simp [e'])]
      have := withoutH_of_not_mem m k (by rw [← e']; exact n.1)
      unfold withoutH at this
      rw [this]; exact t
    · have e' : ¬ q.1 = k := fun z => e (h.1.trans z)
      rw [if_neg e, if_pos (by simp [e'])]
      exact .cons h (dropped_rel (k := k) t n.2)
section
variable {r : Rf} {H : Hp}
theorem ddel_plain {y : U} {k : Key} (hy : Rp r H y (kV k)) : ∀ {kvs : List (Key × V)} {s : U}, RpL r H s (flatK kvs) → (kvs.map (·.1)).Nodup → RpL r H (ddel s y) (flatK (dropK kvs k))
  | [], s, h, _ => by rw [spine_nil h]; exact rfl
  | p :: l, s, h, n => by
    obtain ⟨x, q, t, rfl, h1, h2, h3⟩ := rpl_two h
    rw [ddel_cons, eqU_key h1 hy]
    by_cases e : p.1 = k
    · rw [decide_eq_true e, dropK_pos e n]; exact h3
    · rw [decide_eq_false e, dropK_neg e]
      rw [List.map_cons, List.nodup_cons] at n
      exact ⟨_, _, rfl, h1, _, _, rfl, h2, ddel_plain hy h3 n.2⟩
theorem ddel_nest {y : U} {k : NestedKey} (hn : nK y = some k) : ∀ {kvs : List NE} {s : U}, nKs s = some (kvs.map (·.1)) → RpL r H s (flatN kvs) → dlk s y ≠ none → RpL r H (ddel s y) (flatN (dropNE k kvs)) ∧ nKs (ddel s y) = some ((dropNE k kvs).map (·.1))
  | [], s, _, h, _ => by rw [spine_nil h]; exact ⟨rfl, rfl⟩
  | p :: l, s, hs, h, nq => by
    obtain ⟨x, q, t, rfl, h1, h2, h3⟩ := rpl_two h
    obtain ⟨kx, ks, e1, n1, n2⟩ := nKs_cons hs
    cases e1
    have sy := (key_ok x).1 _ y k n1 hn
    rw [dlk_cons] at nq
    rw [ddel_cons]
    unfold dropNE
    cases hq : eqU x y with
    | no =>
      rw [hq] at nq
      have e : ¬ p.1 = k := fun z => by
        have this : NestedKey.beq p.1 k = false := sy.2 hq
        rw [z, NestedKey.beq_self] at this; cases this
      obtain ⟨i1, i2⟩ := ddel_nest hn n2 h3 nq
      rw [if_neg e]
      exact ⟨⟨_, _, rfl, h1, _, _, rfl, h2, i1⟩, nKs_of_cons n1 i2⟩
    | yes =>
      have e : p.1 = k := NestedKey.eq_of_beq _ _ (sy.1 hq)
      rw [if_pos e]
      exact ⟨h3, n2⟩
    | unk => rw [hq] at nq; exact absurd rfl nq
end
section
variable {C : Ct} {X : Cx} {k : Nat} {A : Around} {E : Value → Shared → Prop} {pins : List (Addr × Obj)} {σ : L2.St} {r : Rf} {H : Hp} {s : Shared} {a : Addr} {s0 y u : U} {vy v : V} {wy wv : Value}
/-- del d[y], there -/
theorem dv_del (I : Inv X pins σ H s) (hw : r.w = X.w) (d : RO C r H a (.dct s0)) (hy : Rp r H y vy) (ry : RelV vy wy) (ok : dOk s0 y = true) (hl : dlk s0 y = some (some u)) :
    ∃ ob, (∀ H', Kq H H' → H' a = some ob → RO C r H' a (.dct (ddel s0 y))) ∧ ∀ (Q : Unit → Shared → Prop), (∀ s', Inv X pins σ (upd H a ob) s' → Q () s') → A.units + 9 < cLine → wpAny (model X.prog X.w) A (delItem (.ref a) wy) Q E s := by
  obtain ⟨hm, dv⟩ := dview (P := X.prog) I.hok hw d.drep hy ry ok
  obtain ⟨q, hq, _, _, mu⟩ := d.dct_mu
  have hn : dlk s0 y ≠ none := fun z => by rw [z] at hl; cases hl
  cases dv with
  | plain kvs vs kk e hk nd hs rel dd z hH =>
    subst e
    obtain ⟨v0, g1, g2⟩ := (dlk_plain hy hs).2 u hl
    have sm : (valV kvs kk).isSome = true := by rw [g1]; rfl
    refine ⟨.dK (dropK kvs kk), fun H' kq e => .inl ⟨_, e, (nd.sublist ((List.filter_sublist).map _)), (ddel_plain hy hs nd).monoq (Rf.Le.refl r) kq⟩, fun Q h hu => ?_⟩
    have he : ∀ h' : Heap, h'.DictOf (mixKind X.prog X.w) a (without vs kk) → ∃ q, h'.get? a = some q := fun h' dd' => let ⟨q, _, _, hq, _⟩ := dd'; ⟨q, hq⟩
    refine wpAny_delItem_slot dd.typeIs (by decide) PySem.F.slot_dict_delitem
      (call_meetsIn PySem.F.slot_dict_delitem dd.typeIs PySem.F.entry_dict_delitem (PySem.F.args_dict_delitem_2 _ _) (meets_dict_delitem_pairs (mixKind X.prog X.w) a hk) ⟨vs, dd, by rw [← rel.length]; exact z, by rw [← (rel.val kk).isSome_eq]; exact sm, fun h' dd' hs' => h _ ?_⟩)
    exact d_write I mu hs' (he h' dd') (dk_new (Nat.le_trans (dropK_le kvs kk) z) hm (rel.drop kk) dd')
  | keyed kvs xs kk b e ew hn' hk hk8 hns hs rel dd f =>
    subst e ew
    obtain ⟨v0, g1, g2⟩ := (dlk_nest hn' hns hs).2 u hl
    obtain ⟨wv, e1, e2⟩ := RelO.some_of (v := v0) (o := (atKey xs kk).map (·.2)) (by rw [← g1]; exact valN_rel rel)
    obtain ⟨p, hp, _⟩ := Option.map_eq_some_iff.mp e1
    obtain ⟨p1, p2⟩ := ddel_nest hn' hns hs hn
    obtain ⟨k1, k2⟩ := dropNE_keys (k := kk) f.2.2.2
    have hnx : (xs.map (·.1)).Nodup := by rw [← entr_keys rel]; exact f.2.2.2
    have rel2 := dropped_rel (k := kk) rel hnx
    by_cases he : dropNE kk kvs = []
    · refine ⟨.dK [], fun H' kq e => .inl ⟨_, e, List.nodup_nil, ?_⟩, fun Q h hu => ?_⟩
      · have z := p1.monoq (Rf.Le.refl r) kq
        rw [he] at z; exact z
      · refine wpAny_delItem_heap (hsz := by rw [← Paired.length rel]; exact f.1) (nroom hu) hk hm dd hp fun h' dd' hs' => h _ ?_
        have heo : ∃ q, h'.get? a = some q := let ⟨q, _, _, hq, _⟩ := dd'; ⟨q, hq⟩
        rw [he] at rel2
        have e0 : withoutH xs kk = [] := by generalize hq : withoutH xs kk = l at rel2; cases rel2; rfl
        rw [e0] at dd'
        obtain ⟨o, es, ep, g1, g2, g3, g4, _⟩ := dd'
        have g4 : es.toList = [] := g4
        refine d_write I mu hs' heo ⟨Nat.zero_le _, hm, [], .nil, o, es, ep, g1, g2, g3, ?_, by rw [g4]; exact .nil, List.nodup_nil⟩
        intro x hx
        have : x ∈ es.toList := by simpa using hx
        rw [g4] at this; cases this
    · refine ⟨dN X.w a (dropNE kk kvs), fun H' kq e => .inr ⟨_, by rw [hw]; exact e, ⟨he, p2⟩, p1.monoq (Rf.Le.refl r) kq⟩, fun Q h hu => ?_⟩
      refine wpAny_delItem_heap (hsz := by rw [← Paired.length rel]; exact f.1) (nroom hu) hk hm dd hp fun h' dd' hs' => h _ ?_
      have he : ∃ q, h'.get? a = some q := let ⟨q, _, _, hq, _⟩ := dd'; ⟨q, hq⟩
      exact d_write I mu hs' he (dN_ok (P := X.prog) ⟨Nat.le_trans k2 f.1, f.2.1, fun p hp => f.2.2.1 p (dropNE_mem p hp), k1⟩ rel2 dd')
end
end
end VI
namespace VI
open PySem PySem.Spec PyProof.Rows L2
noncomputable section
section
variable {C : Ct} {X : Cx} {k : Nat} {p : Prog} {call : Nat → U → VH → VR} {a b c e lo hi : Expr} {es rest : List Expr} {ea eb ec el eh : VE} {pos pos2 : Pos}
/-! ### in -/
theorem inU_ok {r : Rf} {H : Hp} {h : VH} {x s : U} {v1 v2 : V} (K : PySem.W.Frag) (rh : RH C r H h) (p1 : Rp r H x v1) (p2 : Rp r H s v2) (n : inU x s h ≠ .unk) (nd : ∀ t, ¬ IsD s h t) : InIs C K H v1 v2 (inU x s h) := by
  cases s with
  | str m =>
    cases x with
    | str j =>
      obtain ⟨y, rfl, hy⟩ := (show ∃ x, v1 = .str x ∧ StrIs j x from p1)
      obtain ⟨z, rfl, hz⟩ := (show ∃ x, v2 = .str x ∧ StrIs m x from p2)
      have e : inU (.str j) (.str m) h = (Bool.rec .unk (Bool.rec (inSp (charsOf m) (.str j)) .unk (Nat.beq j 0)) (Nat.ble j vB) : Tri) := rfl
      cases hb : Nat.ble j vB with
      | false => rw [e, hb] at n; exact absurd rfl n
      | true =>
        cases h0 : Nat.beq j 0 with
        | true => rw [e, hb, h0] at n; exact absurd rfl n
        | false =>
          have hj := nat_beq_false h0
          rw [e, hb, h0]
          show InIs C K H _ _ (inSp (charsOf m) (.str j))
          rw [charsOf_eq, inSp_chars hj]
          refine .txt (j - 1) z ?_ rfl (says_tri ?_)
          · rw [hy.1]
            show V.str ⟨(charsL j).toArray⟩ = _
            rw [charsL_one hj (Nat.ble_eq.mp hb)]
          · rw [hz.1, dec_cps]
    | _ => exact absurd rfl n
  | vl d s =>
    obtain ⟨h1, h2, h3⟩ := inD_one n
    obtain ⟨d0, e1, g1, s1⟩ := data_shaped K p1 h2
    obtain ⟨a, o, xs, rfl, g2, g3, dp⟩ := (show ∃ a o xs, v2 = .ref a ∧ H a = some (.frz o (.lst xs)) ∧ RpL r H s xs ∧ Dep d s from p2)
    obtain ⟨ds, e2, c, l, l2⟩ := dp h1
    rw [show inU x (.vl d s) h = inD d s x from rfl, h3]
    exact .lst d0 ds g1 (.lst (.inl (.inr ⟨o, g2⟩)) ((dp_of s).2 xs ds e2 g3)) s1 (shaped_of (by rw [PyData.canLay0]; exact c) (by rw [PyData.depth]; omega)) (inSp_ok e2 e1)
  | tup d s =>
    obtain ⟨h1, h2, h3⟩ := inD_one n
    obtain ⟨d0, e1, g1, s1⟩ := data_shaped K p1 h2
    obtain ⟨a, o, xs, rfl, g2, _, g3, dp⟩ := (show ∃ a o xs, v2 = .ref a ∧ H a = some (.frz o (.tup xs)) ∧ o.dict = none ∧ RpL r H s xs ∧ Dep d s from p2)
    obtain ⟨ds, e2, c, l, l2⟩ := dp h1
    rw [show inU x (.tup d s) h = inD d s x from rfl, h3]
    exact .tup d0 ds g1 (.tup (SqT.ofF g2) ((dp_of s).2 xs ds e2 g3)) s1 (shaped_of (by rw [PyData.canLay0]; exact c) (by rw [PyData.depth]; omega)) (inSp_ok e2 e1)
  | ref j =>
    have e : inU x (.ref j) h = (h.at j .unk (fun o => VO.rec (fun s => inD (dpL (dpS s)) s x) (fun s => dgetC s x .unk .no (fun _ => .yes)) (fun _ _ => .unk) o) : Tri) := rfl
    rw [e, VH.at_eq] at n
    rw [e, VH.at_eq]
    cases hk : h.find? j with
    | none => rw [hk] at n; exact absurd rfl n
    | some o =>
      obtain ⟨a, rfl, ha⟩ := (show ∃ a, v2 = .ref a ∧ r.ρ j = some a from p2)
      obtain ⟨a', e2, z⟩ := rh.obj j _ hk
      rw [ha] at e2; cases e2
      rw [hk] at n
      cases o with
      | lst s =>
        obtain ⟨h1, h2, h3⟩ := inD_one n
        obtain ⟨d0, e1, g1, s1⟩ := data_shaped K p1 h2
        obtain ⟨xs, g2, g3⟩ := z
        obtain ⟨ds, e2, c, l, l2⟩ := dep_of g3 h1
        show InIs C K H _ _ (inD (dpL (dpS s)) s x)
        rw [h3]
        exact .lst d0 ds g1 (.lst (SqL.of g2) ((dp_of s).2 xs ds e2 g3)) s1 (shaped_of (by rw [PyData.canLay0]; exact c) (by rw [PyData.depth]; omega)) (inSp_ok e2 e1)
      | dct s => exact absurd (.inr ⟨j, rfl, hk⟩) (nd s)
      | ins c fs => exact absurd rfl n
  | vd s => exact absurd (.inl rfl) (nd s)
  | _ => exact absurd rfl n
theorem inU_d {x y t : U} {h : VH} (d : IsD y h t) : inU x y h = dgetC t x .unk .no (fun _ => .yes) := by
  rcases d with rfl | ⟨j, rfl, hk⟩
  · rfl
  · have e : inU x (.ref j) h = (h.at j .unk (fun o => VO.rec (fun s => inD (dpL (dpS s)) s x) (fun s => dgetC s x .unk .no (fun _ => .yes)) (fun _ _ => .unk) o) : Tri) := rfl
    rw [e, VH.at_eq, hk]
theorem inU_dk {x y t : U} {h : VH} (d : IsD y h t) (n : inU x y h ≠ .unk) : dOk t x = true ∧ ∃ o, dlk t x = some o ∧ Says (inU x y h) o.isSome := by
  rw [inU_d d, dgetC_eq] at n ⊢
  by_cases ok : dOk t x = true
  · rw [if_pos ok] at n ⊢
    refine ⟨ok, ?_⟩
    cases hq : dlk t x with
    | none => rw [hq] at n; exact absurd rfl n
    | some o => cases o with
      | none => exact ⟨none, rfl, says_no⟩
      | some v => exact ⟨some v, rfl, says_yes⟩
  · rw [if_neg ok] at n; exact absurd rfl n
theorem u_in (x : XC C X k) : CmpOk C X .In 6 := by
  intro pins s σ H v1 v2 w1 w2 Q I rx ry ⟨r, h, a, b, u, h', rh, p1, p2, e, q⟩
  obtain ⟨rfl, n, t, rfl, hb⟩ := triR_one (t := inU a b h) e
  by_cases hd : ∃ t, IsD b h' t
  case pos =>
    obtain ⟨t0, hd⟩ := hd
    obtain ⟨ok, o, hl, sy⟩ := inU_dk hd n
    obtain ⟨ad, rfl, dr⟩ := drep_of rh p2 hd
    cases ry
    exact dv_in (by have := x.room.un; omega) I (rh.w.trans x.w.symm) dr p1 rx ok hl fun s' I' => ⟨.bl _, H, I', rfl, by rw [← hb _ sy]; exact q.here rh rfl⟩
  rcases inU_ok X.K rh p1 p2 n (fun t z => hd ⟨t, z⟩) with ⟨c, z, h1, h2, sy⟩ | ⟨d, ds, h1, h2, s1, s2, sy⟩ | ⟨d, ds, h1, h2, s1, s2, sy⟩
  · exact op_in_sign pins s σ H v1 v2 w1 w2 Q I rx ry ⟨c, z, h1, h2, by rw [← hb _ sy]; exact q.here rh rfl⟩
  · exact op_inD (by have := x.room.un; omega) pins s σ H v1 v2 w1 w2 Q I rx ry ⟨d, ds, h1, h2, s1, s2, by rw [← hb _ sy]; exact q.here rh rfl⟩
  · obtain ⟨as, r1⟩ := Dp.reads I d v1 w1 h1 rx
    obtain ⟨bs, r2⟩ := Dp.reads I (.tuple ds) v2 w2 h2 ry
    exact SeqAt.in_tuple_reads r2 r1 (SeqAt.canLay_of_shaped s2) (SeqAt.canLay_of_shaped s1) (room_in_shaped s1 (by have := x.room.un; omega)) ⟨.bl _, H, I, rfl, by rw [← hb _ sy]; exact q.here rh rfl⟩
theorem u_notIn (x : XC C X k) : CmpOk C X .NotIn 7 := by
  intro pins s σ H v1 v2 w1 w2 Q I rx ry ⟨r, h, a, b, u, h', rh, p1, p2, e, q⟩
  obtain ⟨rfl, n, t, rfl, hb⟩ := ntriR_one (t := inU a b h) e
  by_cases hd : ∃ t, IsD b h' t
  case pos =>
    obtain ⟨t0, hd⟩ := hd
    obtain ⟨ok, o, hl, sy⟩ := inU_dk hd n
    obtain ⟨ad, rfl, dr⟩ := drep_of rh p2 hd
    cases ry
    exact dv_notIn (by have := x.room.un; omega) I (rh.w.trans x.w.symm) dr p1 rx ok hl fun s' I' => ⟨.bl _, H, I', rfl, by rw [← hb _ sy]; exact q.here rh rfl⟩
  rcases inU_ok X.K rh p1 p2 n (fun t z => hd ⟨t, z⟩) with ⟨c, z, h1, h2, sy⟩ | ⟨d, ds, h1, h2, s1, s2, sy⟩ | ⟨d, ds, h1, h2, s1, s2, sy⟩
  · exact op_notIn_sign pins s σ H v1 v2 w1 w2 Q I rx ry ⟨c, z, h1, h2, by rw [← hb _ sy]; exact q.here rh rfl⟩
  · exact op_notInD (by have := x.room.un; omega) pins s σ H v1 v2 w1 w2 Q I rx ry ⟨d, ds, h1, h2, s1, s2, by rw [← hb _ sy]; exact q.here rh rfl⟩
  · obtain ⟨as, r1⟩ := Dp.reads I d v1 w1 h1 rx
    obtain ⟨bs, r2⟩ := Dp.reads I (.tuple ds) v2 w2 h2 ry
    exact SeqAt.notIn_tuple_reads r2 r1 (SeqAt.canLay_of_shaped s2) (SeqAt.canLay_of_shaped s1) (room_in_shaped s1 (by have := x.room.un; omega)) ⟨.bl _, H, I, rfl, by rw [← hb _ sy]; exact q.here rh rfl⟩
/-! ### a[b] -/
theorem normIx_ok {α : Type} {i : Int} {n : Nat} {z w : α} {f : Nat → α} (e : normIx i n z f = w) (hz : z ≠ w) : ∃ j, ixN n i = some j ∧ f j = w := by
  cases i with
  | ofNat m =>
    have e : (Bool.rec z (f m) (Nat.ble (m + 1) n) : α) = w := e
    cases hb : Nat.ble (m + 1) n with
    | false => rw [hb] at e; exact absurd e hz
    | true =>
      rw [hb] at e
      have hm := Nat.ble_eq.mp hb
      refine ⟨m, ?_, e⟩
      unfold ixN
      rw [if_pos (by exact Int.natCast_nonneg m), if_pos (by show (m : Int) < n; omega)]
      rfl
  | negSucc m =>
    have e : (Bool.rec z (f (Nat.sub n (m + 1))) (Nat.ble (m + 1) n) : α) = w := e
    cases hb : Nat.ble (m + 1) n with
    | false => rw [hb] at e; exact absurd e hz
    | true =>
      rw [hb] at e
      have hm := Nat.ble_eq.mp hb
      refine ⟨n - (m + 1), ?_, e⟩
      have en : Int.negSucc m = -((m : Int) + 1) := by rw [Int.negSucc_eq]
      unfold ixN
      rw [if_neg (by rw [en]; omega), if_pos (by rw [en]; omega), en]
      congr 1
      omega
theorem seq_one {r : Rf} {H : Hp} {h h' : VH} {u w : U} {v : V} {n : Nat} {f : U → VR} (rh : RH C r H h) (hv : Rp r H u v) (e : u.seq h (.bad n) f = .one w h') :
    ∃ s a xs, f s = .one w h' ∧ v = .ref a ∧ (Rd H a (.lst xs) ∨ ∃ o, H a = some (.frz o (.tup xs)) ∧ o.dict = none) ∧ RpL r H s xs := by
  cases u with
  | tup d s => obtain ⟨a, o, xs, rfl, g1, g2⟩ := tup_rd hv; exact ⟨s, a, xs, e, rfl, .inr ⟨o, g1⟩, g2⟩
  | vl d s => obtain ⟨a, xs, rfl, g1, g2⟩ := list_rd rh hv (.inl ⟨d, rfl⟩); exact ⟨s, a, xs, e, rfl, .inl g1, g2⟩
  | ref k =>
    have e : h.at (α := VR) k (VR.bad n) (fun o => VO.rec f (fun _ => VR.bad n) (fun _ _ => VR.bad n) o) = VR.one w h' := e
    rw [VH.at_eq] at e
    cases hk : h.find? k with
    | none => rw [hk] at e; cases e
    | some o =>
      rw [hk] at e
      cases o with
      | lst s => obtain ⟨a, xs, rfl, g1, g2⟩ := list_rd rh hv (.inr ⟨k, rfl, hk⟩); exact ⟨s, a, xs, e, rfl, .inl g1, g2⟩
      | dct s => cases e
      | ins c fs => cases e
  | _ => cases e
theorem dv_type {P : Program} {w : World} {r : Rf} {H : Hp} {s : Shared} {a : Addr} {s0 : U} (ok : HOk P w H s.heap) (hw : r.w = w) (d : DRep r H a s0) : s.TypeIs (.ref a) "dict" := by
  subst hw
  rcases d with ⟨kvs, hH, nd, hs⟩ | ⟨kvs, hH, ⟨hne, hns⟩, hs⟩
  · obtain ⟨_, _, vs, _, dd⟩ := dk_rd ok hH; exact dd.typeIs
  · obtain ⟨_, xs, _, dd⟩ := dN_of (P := P) ok hH hns hs; exact dd.typeIs
theorem dkeys_cons (k v t : U) : dkeys (.cons k (.cons v t)) = .cons k (dkeys t) := rfl
theorem dkeys_plain {r : Rf} {H : Hp} : ∀ {kvs : List (Key × V)} {s : U}, RpL r H s (flatK kvs) → RpL r H (dkeys s) (kvs.map fun p => kV p.1)
  | [], s, h => by rw [spine_nil h]; exact rfl
  | p :: l, s, h => by
    obtain ⟨x, q, t, rfl, h1, h2, h3⟩ := rpl_two h
    rw [dkeys_cons]
    exact ⟨_, _, rfl, h1, dkeys_plain h3⟩
theorem dkeys_nest {r : Rf} {H : Hp} : ∀ {kvs : List NE} {s : U}, RpL r H s (flatN kvs) → RpL r H (dkeys s) (kvs.map fun p => V.ref p.2.1)
  | [], s, h => by rw [spine_nil h]; exact rfl
  | p :: l, s, h => by
    obtain ⟨x, q, t, rfl, h1, h2, h3⟩ := rpl_two h
    rw [dkeys_cons]
    exact ⟨_, _, rfl, h1, dkeys_nest h3⟩
theorem pairs_vals {P : Program} {w : World} : ∀ {kvs : List (Key × V)} {vs : List (Key × Value)} {es : List DictEntry}, KV kvs vs → Pairs (mixKind P w) es vs → Vals (kvs.map fun p => kV p.1) (es.map (·.key))
  | _, _, _, .nil, .nil => .nil
  | _, _, _, .cons h t, .cons h1 _ t1 => by
    refine .cons ?_ (pairs_vals t t1)
    obtain ⟨e, _⟩ := h
    show RelV (kV _) _
    dsimp only
    rw [e]
    rcases keyIs_shape h1 with ⟨i, t, e1, e2⟩ | ⟨x, t, e1, e2⟩
    · rw [e1, e2]; exact ⟨t, rfl⟩
    · rw [e1, e2]; exact ⟨t, rfl⟩
theorem entr_vals {w : World} {P : Program} : ∀ {kvs : List NE} {xs : List NEv}, Paired EntR kvs xs → Vals (kvs.map fun p => V.ref p.2.1) ((xs.map (entryOfKey (nestedKind P w))).map (·.key))
  | _, _, .nil => .nil
  | _, _, .cons h t => .cons (show Value.ref _ = Value.ref _ by rw [h.2.1]) (entr_vals t)
/-- the dict as it stands in the heap -/
theorem dv_raw {P : Program} {w : World} {r : Rf} {H : Hp} {s : Shared} {a : Addr} {s0 : U} (ok : HOk P w H s.heap) (hw : r.w = w) (d : DRep r H a s0) : (a == sysModules) = false ∧ dlen s0 ≤ sizeLine ∧ ∃ es ep ks, s.heap.DictRaw a es ep ∧ es.size = dlen s0 ∧ RpL r H (dkeys s0) ks ∧ Vals ks (es.toList.map (·.key)) := by
  subst hw
  rcases d with ⟨kvs, hH, nd, hs⟩ | ⟨kvs, hH, ⟨hne, hns⟩, hs⟩
  · obtain ⟨z, hm, vs, rel, o, es, ep, g1, g2, g3, _, g4, _⟩ := dk_rd ok hH
    refine ⟨hm, by rw [dlen_plain hs]; exact z, es, ep, _, ⟨o, g1, g2, g3⟩, ?_, dkeys_plain hs, pairs_vals rel g4⟩
    have := g4.length
    rw [dlen_plain hs, rel.length, ← this]; simp
  · obtain ⟨f, xs, rel, o, es, ep, g1, g2, g3, g4, _⟩ := dN_of (P := P) ok hH hns hs
    refine ⟨f.2.1, by rw [dlen_nest hs]; exact f.1, es, ep, _, ⟨o, g1, g2, g3⟩, ?_, dkeys_nest hs, by rw [g4]; exact entr_vals rel⟩
    have := congrArg List.length g4
    rw [List.length_map] at this
    rw [dlen_nest hs, Paired.length rel, ← this]; simp
theorem u_ix (xc : XC C X k) : IxR X (rU C idxU) := by
  intro value slice pins s σ H v1 v2 w1 w2 Q I rx ry ⟨r, h, x, y, u, h', rh, p1, p2, e, q⟩ hs
  have e : x.dict (α := VR) h (y.caseInt (VR.bad 32) (fun i => x.seq h (VR.bad 31) (fun s => normIx i s.len (VR.bad 31) (fun k => s.nth k (VR.bad 31) (fun u => VR.one u h))))) (fun d => dgetC d y (VR.bad 30) (VR.bad 30) (fun v => VR.one v h)) = VR.one u h' := e
  rcases dict_cases x h (y.caseInt (VR.bad 32) (fun i => x.seq h (VR.bad 31) (fun s => normIx i s.len (VR.bad 31) (fun k => s.nth k (VR.bad 31) (fun u => VR.one u h))))) (fun d => dgetC d y (VR.bad 30) (VR.bad 30) (fun v => VR.one v h)) with ⟨t, hd, e'⟩ | ⟨_, e'⟩
  · rw [e'] at e
    obtain ⟨ok, ⟨_, z⟩ | ⟨u1, hl, e⟩⟩ := dgetC_one e
    · cases z
    · cases e
      obtain ⟨a, rfl, dr⟩ := drep_of rh p1 hd
      cases rx
      have hw := rh.w.trans xc.w.symm
      exact PyProof.Rows.tail_any (dv_type I.hok hw dr) PySem.F.slot_dict_getitem.lookup (dv_get (by have := xc.room.un; omega) I hw dr p2 ry ok hl fun wv v s' I' rv pv => ⟨v, H, I', rv, q.here rh pv⟩) hs
  rw [e'] at e
  obtain ⟨i, rfl, e⟩ := caseInt_one e
  obtain ⟨z, a, xs, e, rfl, g1, g2⟩ := seq_one rh p1 e
  obtain ⟨j, hj, e⟩ := normIx_ok e (by intro z; cases z)
  rw [nth_eq] at e
  cases (show v2 = .int i from p2)
  cases hn : nthU z j with
  | none => rw [hn] at e; cases e
  | some u1 =>
    rw [hn] at e
    cases (show VR.one u1 h = .one u h' from e)
    obtain ⟨x1, hx1, hr1⟩ := (nthU_ok (i := j) g2).1 _ hn
    have ha : atI xs i = some x1 := by unfold atI; rw [g2.length, hj]; exact hx1
    rcases g1 with g1 | ⟨o, g1⟩
    · exact ix_list value slice pins s σ H _ _ w1 w2 Q I rx ry ⟨a, xs, i, x1, rfl, rfl, .inl g1, ha, q.here rh hr1⟩ hs
    · exact ix_tup value slice pins s σ H _ _ w1 w2 Q I rx ry ⟨a, xs, i, x1, rfl, rfl, SqT.ofF g1.1, ha, q.here rh hr1⟩ hs
theorem r_idx (xc : XC C X k) (ha : SE C X a (ev p call ea)) (hb : SE C X b (ev p call eb)) (hs : PlainIx b := by intro _ _; rfl) : SE C X (.Subscript a b pos) (ev p call (.idx ea eb)) := fun c =>
  (pe_ix (u_ix xc) (ha c) (hb c) hs).weak (tS2U (g := idxU))
/-! ### slices -/
def isO (u : U) (o : Option Int) : Prop := (u = .nil ∧ o = none) ∨ ∃ i, u = .int i ∧ o = some i
theorem ixO_one {u w : U} {h : VH} {n : Nat} {f : Option Int → VR} (e : ixO u (.bad n) f = .one w h) : ∃ o, isO u o ∧ f o = .one w h := by
  cases u with
  | nil => exact ⟨none, .inl ⟨rfl, rfl⟩, e⟩
  | int i => exact ⟨some i, .inr ⟨i, rfl, rfl⟩, e⟩
  | _ => cases e
def tSO (C : Ct) (f : VS → VH → VR) : TO := fun σ H Q => ∃ r h s u h' o, RH C r H h ∧ RS r H s σ ∧ f s h = .one u h' ∧ isO u o ∧ ∀ r' H', r.Le r' → Kp r H r' H' → RH C r' H' h' → Q o H'
def SO (C : Ct) (X : Cx) (e : Option Expr) (f : Sem) : Prop := ∀ c, PO X e (tSO C (f c))
theorem _root_.L2.PO.weak {X : Cx} {e : Option Expr} {t t' : TO} (h : PO X e t) (w : ∀ σ H Q, t' σ H Q → t σ H Q) : PO X e t' := ⟨fun pins s σ H Q I q => h.run pins s σ H Q I (w σ H Q q)⟩
theorem o_none : SO C X none (ev p call .nop) := fun c => po_none.weak fun σ H Q ⟨r, h, s, u, h', o, rh, rs, e, eo, q⟩ => by
  cases (show VR.one .nil h = .one u h' from e)
  rcases eo with ⟨_, rfl⟩ | ⟨i, z, _⟩
  · exact q r H (Rf.Le.refl r) (Kp.refl H) rh
  · cases z
theorem o_some (ha : SE C X a (ev p call ea)) : SO C X (some a) (ev p call ea) := fun c => (po_some (ha c)).weak fun σ H Q ⟨r, h, s, u, h', o, rh, rs, e, eo, q⟩ => by
  refine ⟨r, h, s, u, h', rh, rs, e, fun r1 H1 v l k rh1 p1 => ?_⟩
  rcases eo with ⟨rfl, _⟩ | ⟨i, rfl, rfl⟩
  · exact False.elim p1
  · exact ⟨i, p1, q r1 H1 l k rh1⟩
theorem clampIx_eq (i : Int) (n : Nat) (d : Nat) (hd : d ≤ n) : clampIx i n = HT.sIx n d (some i) := by
  cases i with
  | ofNat m =>
    have := HT.sIx_nat n d m
    show minN m n = HT.sIx n d (some (m : Int))
    rw [this]
    show (Bool.rec n m (Nat.ble m n) : Nat) = min m n
    cases hb : Nat.ble m n with
    | true => have := Nat.ble_eq.mp hb; show m = min m n; omega
    | false =>
      have : ¬ m ≤ n := fun z => by rw [Nat.ble_eq.mpr z] at hb; cases hb
      show n = min m n; omega
  | negSucc m =>
    have := HT.clip_eq (Int.negSucc m) n d
    show n - (m + 1) = _
    rw [if_pos (by rw [Int.negSucc_eq]; omega)] at this
    have e : max (Int.negSucc m + (n : Int)) 0 = ((n - (m + 1) : Nat) : Int) := by rw [Int.negSucc_eq]; omega
    rw [e] at this
    exact_mod_cast this
theorem drop_ok {r : Rf} {H : Hp} : ∀ {s : U} {xs : List V} (n : Nat), RpL r H s xs → RpL r H (s.drop n) (xs.drop n)
  | .nil, xs, n, h => by cases (show xs = [] from h); rw [List.drop_nil]; cases n <;> exact rfl
  | .cons a b, xs, 0, h => h
  | .cons a b, xs, n + 1, h => by obtain ⟨x, ys, rfl, _, h2⟩ := h; exact drop_ok n h2
  | .non, _, _, h => False.elim h
  | .bl _, _, _, h => False.elim h
  | .int _, _, _, h => False.elim h
  | .str _, _, _, h => False.elim h
  | .tup _ _, _, _, h => False.elim h
  | .vl _ _, _, _, h => False.elim h
  | .vd _, _, _, h => False.elim h
  | .ref _, _, _, h => False.elim h
  | .gf _, _, _, h => False.elim h
  | .clo _ _, _, _, h => False.elim h
theorem take_ok {r : Rf} {H : Hp} : ∀ {s : U} {xs : List V} (n : Nat), RpL r H s xs → RpL r H (s.take n) (xs.take n)
  | .nil, xs, n, h => by cases (show xs = [] from h); rw [List.take_nil]; exact rfl
  | .cons a b, xs, 0, h => by rw [List.take_zero]; exact rfl
  | .cons a b, xs, n + 1, h => by obtain ⟨x, ys, rfl, h1, h2⟩ := h; exact ⟨x, ys.take n, rfl, h1, take_ok n h2⟩
  | .non, _, _, h => False.elim h
  | .bl _, _, _, h => False.elim h
  | .int _, _, _, h => False.elim h
  | .str _, _, _, h => False.elim h
  | .tup _ _, _, _, h => False.elim h
  | .vl _ _, _, _, h => False.elim h
  | .vd _, _, _, h => False.elim h
  | .ref _, _, _, h => False.elim h
  | .gf _, _, _, h => False.elim h
  | .clo _ _, _, _, h => False.elim h
def oLo (n : Nat) (o : Option Int) : Nat := Option.rec 0 (fun i => clampIx i n) o
def oHi (n : Nat) (o : Option Int) : Nat := Option.rec n (fun i => clampIx i n) o
theorem oLo_eq (n : Nat) (o : Option Int) : oLo n o = HT.sIx n 0 o := by
  cases o with
  | none => rfl
  | some i => exact clampIx_eq i n 0 (Nat.zero_le _)
theorem oHi_eq (n : Nat) (o : Option Int) : oHi n o = HT.sIx n n o := by
  cases o with
  | none => rfl
  | some i => exact clampIx_eq i n n (Nat.le_refl _)
theorem slc_ok {r : Rf} {H : Hp} {s : U} {xs : List V} (lo hi : Option Int) (h : RpL r H s xs) : RpL r H (slcS s lo hi) (cutV xs lo hi) := by
  show RpL r H ((s.drop (oLo s.len lo)).take (Nat.sub (oHi s.len hi) (oLo s.len lo))) _
  rw [oLo_eq, oHi_eq, ← h.length]
  exact take_ok _ (drop_ok _ h)
def rSlU (C : Ct) : V → Option Int → Option Int → Hp → VK → Prop := fun v lo hi H Q => ∃ r h x l d u h', RH C r H h ∧ Rp r H x v ∧ isO l lo ∧ isO d hi ∧ slcU x l d h = .one u h' ∧ Fo C r H u h' Q
theorem isO_inj {u : U} {o o' : Option Int} (h : isO u o) (h' : isO u o') : o = o' := by
  rcases h with ⟨rfl, rfl⟩ | ⟨i, rfl, rfl⟩
  · rcases h' with ⟨_, rfl⟩ | ⟨i, z, _⟩
    · rfl
    · cases z
  · rcases h' with ⟨z, _⟩ | ⟨j, z, rfl⟩
    · cases z
    · cases z; rfl
/-- l[lo:hi], frozen at once -/
theorem sl_listV : SlR X (fun x lo hi H Q => ∃ a xs, x = .ref a ∧ Rd H a (.lst xs) ∧ ∀ p o, H p = none → Q (.ref p) (upd H p (.frz o (.lst (cutV xs lo hi))))) := by
  intro pins s σ H x v vl vu lo hi sl Q I rx hs pl pu ⟨a, xs, e, hx, q⟩
  obtain ⟨T, m, h1, h2, h3⟩ := sl_list pins s σ H x v vl vu lo hi sl (fun v H1 => ∃ p, v = .ref p ∧ H p = none ∧ H1 = upd H p (.lst (cutV xs lo hi))) I rx hs pl pu ⟨a, xs, e, .inl hx, fun p hp => ⟨p, rfl, hp, rfl⟩⟩
  refine ⟨T, m, h1, h2, thn h3 fun u s1 ⟨v1, H1, I1, r1, p, ev, hp, eH⟩ => ?_⟩
  subst ev eH
  obtain ⟨o, I2⟩ := I1.frz upd_same (.inl ⟨_, rfl⟩)
  rw [upd_upd] at I2
  exact ⟨.ref p, _, I2, r1, q p o hp⟩
theorem u_slc : SlR X (rSlU C) := by
  intro pins s σ H x v vl vu lo hi sl Q I rx hs pl pu ⟨r, h, x0, l, d, u, h', rh, p1, ol, od, e, q⟩
  have e : ixO l (VR.bad 33) (fun lo => ixO d (VR.bad 33) fun hi => x0.cases (VR.bad 33) (fun _ => VR.bad 33) (fun _ => VR.bad 33) (fun _ => VR.bad 33) (fun _ s => VR.one (mkT (slcS s lo hi)) h) (fun _ s => VR.one (mkL (slcS s lo hi)) h) (fun _ => VR.bad 33)
    (fun k => h.at k (VR.bad 33) (fun o => VO.rec (fun s => VR.one (mkL (slcS s lo hi)) h) (fun _ => VR.bad 33) (fun _ _ => VR.bad 33) o)) (VR.bad 33)) = VR.one u h' := e
  obtain ⟨lo', ol', e⟩ := ixO_one e
  obtain ⟨hi', od', e⟩ := ixO_one e
  cases isO_inj ol ol'
  cases isO_inj od od'
  cases x0 with
  | tup dd s0 =>
    cases (show VR.one (mkT (slcS s0 lo hi)) h = .one u h' from e)
    obtain ⟨a, o, xs, rfl, g1, g2⟩ := tup_rd p1
    refine sl_tupF pins s σ H _ v vl vu lo hi sl Q I rx hs pl pu ⟨a, xs, rfl, SqT.ofF g1.1, fun hw => ?_, fun p o hp ho => q.newTup rh (slc_ok lo hi g2) hp ho⟩
    refine q.here rh (rp_mkT (o := o) (slc_ok lo hi g2) ?_ g1.2)
    have : cutV xs lo hi = xs := by unfold cutV; rw [hw.1, hw.2]; simp
    rw [this]; exact g1.1
  | vl dd s0 =>
    cases (show VR.one (mkL (slcS s0 lo hi)) h = .one u h' from e)
    obtain ⟨a, xs, rfl, g1, g2⟩ := list_rd (s := s0) rh p1 (.inl ⟨dd, rfl⟩)
    exact sl_listV pins s σ H _ v vl vu lo hi sl Q I rx hs pl pu ⟨a, xs, rfl, g1, fun p o hp => q.newLst rh (slc_ok lo hi g2) hp⟩
  | ref k0 =>
    have e : h.at k0 (VR.bad 33) (fun o => VO.rec (fun s => VR.one (mkL (slcS s lo hi)) h) (fun _ => VR.bad 33) (fun _ _ => VR.bad 33) o) = VR.one u h' := e
    rw [VH.at_eq] at e
    cases hk : h.find? k0 with
    | none => rw [hk] at e; cases e
    | some o =>
      rw [hk] at e
      cases o with
      | lst s0 =>
        cases (show VR.one (mkL (slcS s0 lo hi)) h = .one u h' from e)
        obtain ⟨a, xs, rfl, g1, g2⟩ := list_rd (s := s0) rh p1 (.inr ⟨k0, rfl, hk⟩)
        exact sl_listV pins s σ H _ v vl vu lo hi sl Q I rx hs pl pu ⟨a, xs, rfl, g1, fun p o hp => q.newLst rh (slc_ok lo hi g2) hp⟩
      | dct s0 => cases e
      | ins c fs => cases e
  | _ => cases e
theorem r_slc {lo hi : Option Expr} (ha : SE C X a (ev p call ea)) (hl : SO C X lo (ev p call el)) (hh : SO C X hi (ev p call eh)) : SE C X (.Subscript a (.Slice lo hi none pos2) pos) (ev p call (.slc ea el eh)) := fun c => by
  refine (pe_slice (u_slc (C := C)) (ha c) (hl c) (hh c)).weak fun σ H Q ⟨r, h, s, u, h', rh, rs, e, q⟩ => ?_
  obtain ⟨x, h1, e1, e⟩ := bind_one e
  obtain ⟨y, h2, e2, e⟩ := bind_one e
  obtain ⟨z, h3, e3, e⟩ := bind_one e
  have e0 := e
  obtain ⟨lo', ol, e⟩ := ixO_one e
  obtain ⟨hi', oh, e⟩ := ixO_one e
  refine ⟨r, h, s, x, h1, rh, rs, e1, fun r1 H1 v1 l1 k1 rh1 p1 => ⟨r1, h1, s, y, h2, lo', rh1, rs.mono l1 k1, e2, ol, fun r2 H2 l2 k2 rh2 => ⟨r2, h2, s, z, h3, hi', rh2, (rs.mono l1 k1).mono l2 k2, e3, oh, fun r3 H3 l3 k3 rh3 => ?_⟩⟩⟩
  exact ⟨r3, h3, x, y, z, u, h', rh3, (p1.mono l2 k2).mono l3 k3, ol, oh, e0, fun r4 H4 v4 l4 k4 rh4 p4 => q r4 H4 v4 (((l1.trans l2).trans l3).trans l4) (((k1.trans k2).trans k3).trans k4) rh4 p4⟩
end
end
end VI
namespace VI
open PySem PySem.Spec PyProof.Rows L2
noncomputable section
section
variable {C : Ct} {X : Cx} {k : Nat} {p : Prog} {call : Nat → U → VH → VR} {cv : U → U → VH → VR} {a b c e o i : Expr} {es rest : List Expr} {ea eb ec el eo ei : VE} {pos pos2 pp : Pos}
theorem arg1_one {r : Rf} {H : Hp} {u w : U} {h : VH} {f : U → VR} {vs : List V} (hs : RpL r H u vs) (e : arg1 u f = .one w h) : ∃ a v, f a = .one w h ∧ vs = [v] ∧ Rp r H a v := by
  cases u with
  | cons a q =>
    obtain ⟨v, ws, rfl, h1, h2⟩ := hs
    cases q with
    | nil => cases (show ws = [] from h2); exact ⟨a, v, e, rfl, h1⟩
    | cons b t => cases e
    | _ => exact False.elim h2
  | nil => cases e
  | _ => exact False.elim hs
theorem arg2_one {r : Rf} {H : Hp} {u w : U} {h : VH} {f : U → U → VR} {vs : List V} (hs : RpL r H u vs) (e : arg2 u f = .one w h) : ∃ a b v x, f a b = .one w h ∧ vs = [v, x] ∧ Rp r H a v ∧ Rp r H b x := by
  cases u with
  | cons a q =>
    obtain ⟨v, ws, rfl, h1, h2⟩ := hs
    cases q with
    | cons b t =>
      obtain ⟨x, xs, rfl, h3, h4⟩ := h2
      cases t with
      | nil => cases (show xs = [] from h4); exact ⟨a, b, v, x, e, rfl, h1, h3⟩
      | cons _ _ => cases e
      | _ => exact False.elim h4
    | nil => cases e
    | _ => exact False.elim h2
  | nil => cases e
  | _ => exact False.elim hs
theorem slen_eq (n : Nat) : slen n = (charsL n).length := by
  have : ∀ (f n : Nat) (acc : List Nat), (Nat.rec (motive := fun _ => Nat → Nat → Nat) (fun _ a => a) (fun _ ih n a => Bool.rec (ih (Nat.div (Nat.pred n) vB) (Nat.succ a)) a (Nat.beq n 0)) f n acc.length) = (charsG f n acc).length := by
    intro f
    induction f with
    | zero => intro n acc; rfl
    | succ f ih =>
      intro n acc
      by_cases hn : n = 0
      · subst hn; rw [charsG, if_pos rfl]; rfl
      · rw [charsG, if_neg hn]
        have hb : Nat.beq n 0 = false := by cases n with | zero => exact absurd rfl hn | succ m => rfl
        have e := ih ((n - 1) / vB) (((n - 1) % vB) :: acc)
        rw [← e]
        show (Bool.rec _ _ (Nat.beq n 0) : Nat) = _
        rw [hb]
        rfl
  have t := this 1000000 n []
  rw [List.length_nil] at t
  exact t
theorem dv_len {Q : VK} {pins : List (Addr × Obj)} {σ : L2.St} {r : Rf} {H : Hp} {s : Shared} {a : Addr} {s0 : U} (I : Inv X pins σ H s) (hw : r.w = X.w) (d : DRep r H a s0) (q : Q (.int (dlen s0)) H) : wpAny (model X.prog X.w) X.A (PySem.call (.builtin "len") [.ref a]) (EP X pins σ Q) X.xe s := by
  obtain ⟨hm, hz, es, ep, ks, g1, g2, _⟩ := dv_raw (P := X.prog) I.hok hw d
  refine PyProof.Rows.call_len_slot (n := ((dlen s0 : Nat) : Int)) g1.typeIs PySem.F.slot_dict_len (fun Q' hq => call_len_raw hm g1 (by rw [g2]; exact hq)) (by omega) (by rw [sizeLine_eq] at hz; omega) ?_
  exact ⟨.int (dlen s0), H, I.tok _, ⟨_, rfl⟩, q⟩
theorem b_len {j : Nat} (xc : XC C X j) : CallR X (.builtin "len") (rC C (bcU cv 0)) := by
  intro pins s σ H vs us Q I rv ⟨r, h, s0, u, h', rh, hs, e, q⟩
  obtain ⟨a, v, e, rfl, hv⟩ := arg1_one hs e
  have e : a.size h (VR.bad 40) (fun n => VR.one (.int (.ofNat n)) h) = VR.one u h' := e
  cases a with
  | str n =>
    obtain ⟨x, rfl, hx⟩ := (show ∃ x, v = .str x ∧ StrIs n x from hv)
    cases (show VR.one (.int (.ofNat (slen n))) h = .one u h' from e)
    refine call_len pins s σ H _ us Q I rv ⟨.str x, slen n, rfl, ⟨hx.line, ?_⟩, q.here rh rfl⟩
    rw [slen_eq, hx.1]; rfl
  | tup d t =>
    obtain ⟨a, o, xs, rfl, g1, g2⟩ := tup_rd hv
    cases (show VR.one (.int (.ofNat t.len)) h = .one u h' from e)
    exact call_len pins s σ H _ us Q I rv ⟨.ref a, t.len, rfl, .inr ⟨xs, SqT.ofF g1.1, g2.length.symm⟩, q.here rh rfl⟩
  | vl d t =>
    obtain ⟨a, xs, rfl, g1, g2⟩ := list_rd (s := t) rh hv (.inl ⟨d, rfl⟩)
    cases (show VR.one (.int (.ofNat t.len)) h = .one u h' from e)
    exact call_len pins s σ H _ us Q I rv ⟨.ref a, t.len, rfl, .inl ⟨xs, .inl g1, g2.length.symm⟩, q.here rh rfl⟩
  | ref k =>
    have e : h.at k (VR.bad 40) (fun o => VO.rec (fun s => VR.one (.int (.ofNat s.len)) h) (fun s => VR.one (.int (.ofNat (dlen s))) h) (fun _ _ => VR.bad 40) o) = VR.one u h' := e
    rw [VH.at_eq] at e
    cases hk : h.find? k with
    | none => rw [hk] at e; cases e
    | some o =>
      rw [hk] at e
      cases o with
      | lst t =>
        obtain ⟨a, xs, rfl, g1, g2⟩ := list_rd (s := t) rh hv (.inr ⟨k, rfl, hk⟩)
        cases (show VR.one (.int (.ofNat t.len)) h = .one u h' from e)
        exact call_len pins s σ H _ us Q I rv ⟨.ref a, t.len, rfl, .inl ⟨xs, .inl g1, g2.length.symm⟩, q.here rh rfl⟩
      | dct t =>
        obtain ⟨a, rfl, dr⟩ := drep_of rh hv (.inr ⟨k, rfl, hk⟩)
        cases (show VR.one (.int (.ofNat (dlen t))) h = .one u h' from e)
        obtain ⟨uw, rfl, ru⟩ := rv.one
        cases ru
        exact dv_len I (rh.w.trans xc.w.symm) dr (q.here rh rfl)
      | ins c fs => cases e
  | vd t =>
    obtain ⟨a, rfl, dr⟩ := drep_of rh hv (.inl rfl)
    cases (show VR.one (.int (.ofNat (dlen t))) h = .one u h' from e)
    obtain ⟨uw, rfl, ru⟩ := rv.one
    cases ru
    exact dv_len I (rh.w.trans xc.w.symm) dr (q.here rh rfl)
  | _ => cases e
theorem bools_ok {r : Rf} {H : Hp} (z : Tri) (g : Bool → Tri → Tri) (hg : ∀ b, g b .unk = .unk) : ∀ {s : U} {xs : List V}, RpL r H s xs → U.sp (α := Tri) z (fun a _ ih => a.cases .unk (fun b => g b ih) (fun _ => .unk) (fun _ => .unk) (fun _ _ => .unk) (fun _ _ => .unk) (fun _ => .unk) (fun _ => .unk) .unk) s ≠ .unk →
    ∃ bs : List Bool, xs = bs.map V.bl ∧ U.sp (α := Tri) z (fun a _ ih => a.cases .unk (fun b => g b ih) (fun _ => .unk) (fun _ => .unk) (fun _ _ => .unk) (fun _ _ => .unk) (fun _ => .unk) (fun _ => .unk) .unk) s = bs.foldr g z
  | .nil, xs, h, n => by cases (show xs = [] from h); exact ⟨[], rfl, rfl⟩
  | .cons a t, xs, h, n => by
    obtain ⟨x, ys, rfl, h1, h2⟩ := h
    cases a with
    | bl b =>
      cases (show x = .bl b from h1)
      have n2 : U.sp (α := Tri) z (fun a _ ih => a.cases .unk (fun b => g b ih) (fun _ => .unk) (fun _ => .unk) (fun _ _ => .unk) (fun _ _ => .unk) (fun _ => .unk) (fun _ => .unk) .unk) t ≠ .unk := fun e => n (by show g b (U.sp z _ t) = .unk; rw [e]; exact hg b)
      obtain ⟨bs, e1, e2⟩ := bools_ok z g hg h2 n2
      exact ⟨b :: bs, by rw [e1]; rfl, by show g b (U.sp z _ t) = g b (bs.foldr g z); rw [e2]⟩
    | _ => exact absurd rfl n
  | .non, _, h, _ => False.elim h
  | .bl _, _, h, _ => False.elim h
  | .int _, _, h, _ => False.elim h
  | .str _, _, h, _ => False.elim h
  | .tup _ _, _, h, _ => False.elim h
  | .vl _ _, _, h, _ => False.elim h
  | .vd _, _, h, _ => False.elim h
  | .ref _, _, h, _ => False.elim h
  | .gf _, _, h, _ => False.elim h
  | .clo _ _, _, h, _ => False.elim h
theorem all_says : ∀ bs : List Bool, bs.foldr (fun b ih => (Tri.rec .no (Bool.rec .no .yes b) .unk ih : Tri)) .yes = tri (bs.all id)
  | [] => rfl
  | b :: bs => by
    show (Tri.rec .no (Bool.rec .no .yes b) .unk (bs.foldr _ _) : Tri) = _
    rw [all_says bs, List.all_cons]
    cases b <;> cases bs.all id <;> rfl
theorem any_says : ∀ bs : List Bool, bs.foldr (fun b ih => (Tri.rec (Bool.rec .no .yes b) .yes .unk ih : Tri)) .no = tri (bs.any id)
  | [] => rfl
  | b :: bs => by
    show (Tri.rec (Bool.rec .no .yes b) .yes .unk (bs.foldr _ _) : Tri) = _
    rw [any_says bs, List.any_cons]
    cases b <;> cases bs.any id <;> rfl
theorem b_all (hc : X.calm = true) : CallR X (.builtin "all") (rC C (bcU cv 1)) := by
  intro pins s σ H vs us Q I rv ⟨r, h, s0, u, h', rh, hs, e, q⟩
  obtain ⟨a, v, e, rfl, hv⟩ := arg1_one hs e
  obtain ⟨t, ht, e⟩ := list_one' (u := a) e
  obtain ⟨a', xs, rfl, g1, g2⟩ := list_rd rh hv ht
  obtain ⟨rfl, n, b, rfl, hb⟩ := triR_one e
  obtain ⟨bs, rfl, e2⟩ := bools_ok .yes (fun b ih => (Tri.rec .no (Bool.rec .no .yes b) .unk ih : Tri)) (fun _ => rfl) g2 n
  refine cr_all hc pins s σ H _ us Q I rv ⟨a', bs, rfl, .inl g1, ?_⟩
  rw [← hb (bs.all id) (by rw [e2, all_says]; exact says_tri rfl)]
  exact q.here rh rfl
theorem b_any (hc : X.calm = true) : CallR X (.builtin "any") (rC C (bcU cv 2)) := by
  intro pins s σ H vs us Q I rv ⟨r, h, s0, u, h', rh, hs, e, q⟩
  obtain ⟨a, v, e, rfl, hv⟩ := arg1_one hs e
  obtain ⟨t, ht, e⟩ := list_one' (u := a) e
  obtain ⟨a', xs, rfl, g1, g2⟩ := list_rd rh hv ht
  obtain ⟨rfl, n, b, rfl, hb⟩ := triR_one e
  obtain ⟨bs, rfl, e2⟩ := bools_ok .no (fun b ih => (Tri.rec (Bool.rec .no .yes b) .yes .unk ih : Tri)) (fun _ => rfl) g2 n
  refine cr_any hc pins s σ H _ us Q I rv ⟨a', bs, rfl, .inl g1, ?_⟩
  rw [← hb (bs.any id) (by rw [e2, any_says]; exact says_tri rfl)]
  exact q.here rh rfl
theorem b_tuple : CallR X (.type "tuple") (rC C (bcU cv 5)) := by
  intro pins s σ H vs us Q I rv ⟨r, h, s0, u, h', rh, hs, e, q⟩
  obtain ⟨a, v, e, rfl, hv⟩ := arg1_one hs e
  obtain ⟨t, a', xs, e, rfl, g1, g2⟩ := seq_one (u := a) rh hv e
  cases (show VR.one (mkT t) h = .one u h' from e)
  refine call_tupleF pins s σ H _ us Q I rv ⟨a', xs, rfl, ?_⟩
  rcases g1 with g1 | ⟨o, g1⟩
  · exact .inl ⟨.inl g1, fun l o hl ho => q.newTup rh g2 hl ho⟩
  · exact .inr ⟨SqT.ofF g1.1, q.here rh (rp_mkT g2 g1.1 g1.2)⟩
/-- a new object that changes -/
theorem Fo.newO {r : Rf} {H : Hp} {h : VH} {s : U} {xs : List V} {Q : VK} {l : Addr} (q : Fo C r H (.ref h.nxt) (h.add (.lst s)) Q) (rh : RH C r H h) (hs : RpL r H s xs) (hl : H l = none) : Q (.ref l) (upd H l (.lst xs)) :=
  q (r.put h.nxt l) _ _ (rh.le_put l) (rh.kp_put hl) (rh.add hl ⟨xs, upd_same, hs.mono (rh.le_put l) (rh.kp_put hl)⟩) ⟨l, rfl, r.put_same _ _⟩
theorem newO_eq (o : VO) (h : VH) : newO o h = .one (.ref h.nxt) (h.add o) := VH.new_eq h o _
theorem b_list : CallR X (.type "list") (rC C (bcU cv 6)) := by
  intro pins s σ H vs us Q I rv ⟨r, h, s0, u, h', rh, hs, e, q⟩
  obtain ⟨a, v, e, rfl, hv⟩ := arg1_one hs e
  obtain ⟨t, a', xs, e, rfl, g1, g2⟩ := seq_one (u := a) rh hv e
  rw [newO_eq] at e
  cases e
  refine call_list_of pins s σ H _ us Q I rv ⟨a', xs, rfl, ?_, fun l hl => q.newO rh g2 hl⟩
  rcases g1 with g1 | ⟨o, g1⟩
  · exact .inl (.inl g1)
  · exact .inr (SqT.ofF g1.1)
theorem b_bool : CallR X (.type "bool") (rC C (bcU cv 9)) := by
  intro pins s σ H vs us Q I rv ⟨r, h, s0, u, h', rh, hs, e, q⟩
  obtain ⟨a, v, e, rfl, hv⟩ := arg1_one hs e
  have e : a.cases (VR.bad 48) (fun b => rb b h) (fun i => rb (bnot (beqI i (.ofNat 0))) h) (fun _ => VR.bad 48) (fun _ _ => VR.bad 48) (fun _ _ => VR.bad 48) (fun _ => VR.bad 48) (fun _ => VR.bad 48) (VR.bad 48) = VR.one u h' := e
  cases a with
  | bl b =>
    cases (show rb b h = .one u h' from e)
    cases (show v = .bl b from hv)
    exact call_bool1 pins s σ H _ us Q I rv (.inr ⟨b, rfl, q.here rh rfl⟩)
  | int i =>
    cases (show rb (bnot (beqI i (.ofNat 0))) h = .one u h' from e)
    cases (show v = .int i from hv)
    refine call_bool1 pins s σ H _ us Q I rv (.inl ⟨i, rfl, ?_⟩)
    have : (i != 0) = bnot (beqI i (.ofNat 0)) := by
      rw [beqI_eq]
      by_cases hi : i = 0
      · subst hi; rfl
      · rw [decide_eq_false (by exact hi)]
        exact bne_iff_ne.mpr hi
    rw [this]
    exact q.here rh rfl
  | _ => cases e
/-- a new list that changes -/
theorem r_lst (hl : SL C X es (ev p call el)) (hb : bnd el ≤ 100000 := by decide) : SE C X (.List es pos) (ev p call (.lst el)) := fun c => by
  refine (pe_lst (hl c)).weak fun σ H Q ⟨r, h, s, u, h', rh, rs, e, q⟩ => ?_
  obtain ⟨x, h1, e1, e⟩ := bind_one e
  rw [newO_eq] at e
  cases e
  refine ⟨r, h, s, x, h1, rh, rs, e1, fun r1 H1 vs l k rh1 p1 => ⟨?_, fun a ha => ?_⟩⟩
  · have := bnd_ok e1 (by omega)
    rw [p1.length, sizeLine_eq]
    omega
  · exact Fo.newO (fun r2 H2 v l2 k2 rh2 p2 => q r2 H2 v (l.trans l2) (k.trans k2) rh2 p2) rh1 p1 ha
end
end
end VI
namespace VI
open PySem PySem.Spec PyProof.Rows L2
noncomputable section
/-! ### isinstance -/
def bit (m k : Nat) : Bool := bnot (Nat.beq (Nat.land m k) 0)
structure InsOk (K : PySem.W.Frag) (A : Addr) : Prop where
  cl : Cls K A
  ha : PySem.W.findIn K (.ref A) "__class__" = some (some (.builtin "object.__class__"))
  hn : PySem.W.specialIn K (.builtin "object.__class__") "__get__" = some (some (.builtin "getset_descriptor.__get__"))
  htk : PySem.W.takesIn K (.builtin "object.__class__") = some true
  hm : PySem.W.mroIn K A (.type "object") = some true
/-- what isinstance tells of each kind, for these classes -/
structure IsiTab (C : Ct) (K : PySem.W.Frag) (p : Prog) (m : Nat) (us : List Value) : Prop where
  non : PySem.W.kitAny K (.type "NoneType") us = some false
  bl : PySem.W.kitAny K (.type "bool") us = some (bit m 3)
  int : PySem.W.kitAny K (.type "int") us = some (bit m 1)
  str : PySem.W.kitAny K (.type "str") us = some (bit m 4)
  lst : PySem.W.kitAny K (.type "list") us = some (bit m 8)
  tup : PySem.W.kitAny K (.type "tuple") us = some (bit m 16)
  dct : PySem.W.kitAny K (.type "dict") us = some (bit m 32)
  ins : ∀ c A, C.CA c = some A → PySem.W.kitAny K (.ref A) us = some (bit m (p.sub c)) ∧ InsOk K A
theorem kitOne_of {K : PySem.W.Frag} {t u : Value} {b : Bool} (h : PySem.W.kitAny K t [u] = some b) : PySem.W.kitOne K t u = some b := by
  unfold PySem.W.kitAny at h
  cases he : PySem.W.kitOne K t u with
  | none => rw [he] at h; cases h
  | some d =>
    rw [he] at h
    cases d with
    | true => exact h
    | false => exact h
section
variable {C : Ct} {X : Cx} {k : Nat} {p : Prog} {call : Nat → U → VH → VR} {cv : U → U → VH → VR} {a b c e o i : Expr} {es rest : List Expr} {ea eb ec el eo ei : VE} {pos pos2 pp tp : Pos} {kt : Nat}
theorem dPl_one {s w : U} {h' : VH} {x : VR} {n : Nat} (e : (Bool.rec (VR.bad n) x (dPl s) : VR) = .one w h') : dPl s = true ∧ x = .one w h' := by
  cases hb : dPl s with
  | false => rw [hb] at e; cases e
  | true => rw [hb] at e; exact ⟨rfl, e⟩
theorem dPl_not {r : Rf} {H : Hp} {kvs : List NE} {s : U} (hne : kvs ≠ []) (hn : nKs s = some (kvs.map (·.1))) (hs : RpL r H s (flatN kvs)) : ¬ dPl s = true := fun hd => by
  cases kvs with
  | nil => exact hne rfl
  | cons p l =>
    obtain ⟨x, q, t, rfl, h1, _⟩ := rpl_two hs
    have z1 : kkind x = 1 := nat_beq_iff.mp hd
    rcases kk_cases x with z | ⟨z, ⟨i, rfl⟩ | ⟨n, rfl⟩⟩ | ⟨z, _⟩
    · omega
    · cases (show V.ref _ = .int i from h1)
    · obtain ⟨_, z, _⟩ := (show ∃ x, V.ref _ = .str x ∧ StrIs n x from h1); cases z
    · omega
theorem isi_ok {r : Rf} {H : Hp} {h h' : VH} {u w : U} {v : V} {m : Nat} {us : List Value} {K : PySem.W.Frag} (tab : IsiTab C K p m us) (rh : RH C r H h) (hv : Rp r H u v) (e : isiU p m u h = .one w h') :
    h' = h ∧ ∃ t b, w = .bl b ∧ TyX K H v t ∧ PySem.W.kitAny K t us = some b := by
  cases u with
  | non => cases (show v = .non from hv); cases (show rb false h = .one w h' from e); exact ⟨rfl, _, _, rfl, .base .non, tab.non⟩
  | bl b => cases (show v = .bl b from hv); cases (show rb (bit m 3) h = .one w h' from e); exact ⟨rfl, _, _, rfl, .base (.bl b), tab.bl⟩
  | int j => cases (show v = .int j from hv); cases (show rb (bit m 1) h = .one w h' from e); exact ⟨rfl, _, _, rfl, .base (.int j), tab.int⟩
  | str n =>
    obtain ⟨x, rfl, hx⟩ := (show ∃ x, v = .str x ∧ StrIs n x from hv)
    cases (show rb (bit m 4) h = .one w h' from e)
    exact ⟨rfl, _, _, rfl, .base (.str x), tab.str⟩
  | tup d s =>
    obtain ⟨a, o, xs, rfl, g1, g2⟩ := tup_rd hv
    cases (show rb (bit m 16) h = .one w h' from e)
    exact ⟨rfl, _, _, rfl, .fTuple g1.1, tab.tup⟩
  | vl d s =>
    obtain ⟨a, o, xs, rfl, g1, g2, _⟩ := (show ∃ a o xs, v = .ref a ∧ H a = some (.frz o (.lst xs)) ∧ RpL r H s xs ∧ Dep d s from hv)
    cases (show rb (bit m 8) h = .one w h' from e)
    exact ⟨rfl, _, _, rfl, .base (.frz g1), tab.lst⟩
  | ref j =>
    have e : h.at j (VR.bad 60) (fun o => VO.rec (fun _ => tst m 8 h) (fun s => Bool.rec (VR.bad 61) (tst m 32 h) (dPl s)) (fun c _ => tst m (p.sub c) h) o) = VR.one w h' := e
    rw [VH.at_eq] at e
    cases hk : h.find? j with
    | none => rw [hk] at e; cases e
    | some ob =>
      rw [hk] at e
      obtain ⟨a, rfl, ha⟩ := (show ∃ a, v = .ref a ∧ r.ρ j = some a from hv)
      obtain ⟨a', e2, z⟩ := rh.obj j _ hk
      rw [ha] at e2; cases e2
      cases ob with
      | lst s =>
        obtain ⟨xs, g1, g2⟩ := z
        cases (show rb (bit m 8) h = .one w h' from e)
        exact ⟨rfl, _, _, rfl, .base (.lst g1), tab.lst⟩
      | dct s =>
        obtain ⟨hd, e⟩ := dPl_one (show (Bool.rec (VR.bad 61) (tst m 32 h) (dPl s) : VR) = .one w h' from e)
        cases (show rb (bit m 32) h = .one w h' from e)
        rcases z with ⟨kvs, g1, _⟩ | ⟨kvs, g1, ⟨g2, g3⟩, g4⟩
        · exact ⟨rfl, _, _, rfl, .base (.dK g1), tab.dct⟩
        · exact absurd hd (dPl_not g2 g3 g4)
      | ins c fs =>
        obtain ⟨A, dx, fl, hA, hH, _, _⟩ := z
        cases (show rb (bit m (p.sub c)) h = .one w h' from e)
        obtain ⟨t1, t2⟩ := tab.ins c A hA
        exact ⟨rfl, _, _, rfl, .base (.ins hH t2.cl t2.ha t2.hn t2.htk t2.hm), t1⟩
  | vd s =>
    obtain ⟨hd, e⟩ := dPl_one (show (Bool.rec (VR.bad 61) (tst m 32 h) (dPl s) : VR) = .one w h' from e)
    cases (show rb (bit m 32) h = .one w h' from e)
    obtain ⟨a, o, rfl, ⟨kvs, g1, _⟩ | ⟨kvs, g1, ⟨g2, g3⟩, g4⟩⟩ := hv
    · exact ⟨rfl, _, _, rfl, .fDict g1, tab.dct⟩
    · exact absurd hd (dPl_not g2 g3 g4)
  | nil => exact False.elim hv
  | cons _ _ => exact False.elim hv
  | gf f => cases e
  | clo f c => cases e
theorem r_isi {m : Nat} {cl : Expr} {cv : V} {u : Value} (tab : IsiTab C X.K p m [u]) (hk : ClsV cv u) (ha : SE C X a (ev p call ea)) (hcl : PE X cl (tC cv)) (hg : Gl X "isinstance") (hm : X.mg "isinstance" = none)
    (he : starEach [a, cl] X.env = (false, eval a X.env) :: starEach [cl] X.env := by rfl) (he2 : starEach [cl] X.env = (false, eval cl X.env) :: starEach [] X.env := by rfl) (hpl : (backTo pos (starEach [cl] X.env)).any (·.1) = false := by rfl) :
    SE C X (.Call (.Name "isinstance" pp) [a, cl] [] pos) (ev p call (.isi m ea)) := fun c => by
  refine (pe_callB call_isi hg hm boot_isinstance (pa_cons (ha c) (pa_cons hcl pa_nil he2) he) (by decide) (by decide) he hpl).weak fun σ H Q ⟨r, h, s, u1, h', rh, rs, e, q⟩ => ?_
  obtain ⟨x, h1, e1, e⟩ := bind_one e
  refine ⟨r, h, s, x, h1, rh, rs, e1, fun r1 H1 v l1 k1 rh1 p1 => ?_⟩
  obtain ⟨rfl, t, b, rfl, ty, kt⟩ := isi_ok tab rh1 p1 e
  exact ⟨v, cv, t, u, b, rfl, hk, ty, kitOne_of kt, q r1 H1 _ l1 k1 rh1 rfl⟩
theorem r_isiT {m : Nat} {cls : List Expr} {cvs : List V} {us : List Value} (tab : IsiTab C X.K p m us) (hk : Paired ClsV cvs us) (ha : SE C X a (ev p call ea)) (hcl : PA X cls (fun _ H Q => Q cvs H)) (hlen : cvs.length ≤ 100) (hg : Gl X "isinstance") (hm : X.mg "isinstance" = none)
    (he : starEach [a, .Tuple cls kt tp] X.env = (false, eval a X.env) :: starEach [.Tuple cls kt tp] X.env := by rfl) (he2 : starEach [.Tuple cls kt tp] X.env = (false, eval (.Tuple cls kt tp) X.env) :: starEach [] X.env := by rfl) (hpl : (backTo pos (starEach [.Tuple cls kt tp] X.env)).any (·.1) = false := by rfl) :
    SE C X (.Call (.Name "isinstance" pp) [a, .Tuple cls kt tp] [] pos) (ev p call (.isi m ea)) := fun c => by
  refine (pe_callB call_isiT hg hm boot_isinstance (pa_cons (ha c) (pa_cons (pe_tup hcl) pa_nil he2) he) (by decide) (by decide) he hpl).weak fun σ H Q ⟨r, h, s, u1, h', rh, rs, e, q⟩ => ?_
  obtain ⟨x, h1, e1, e⟩ := bind_one e
  refine ⟨r, h, s, x, h1, rh, rs, e1, fun r1 H1 v l1 k1 rh1 p1 => ⟨by rw [sizeLine_eq]; omega, fun tpa htp => ?_⟩⟩
  have rh2 := rh1.more (new_keeps (o := .tup cvs) htp)
  have p2 := p1.mono (Rf.Le.refl r1) (Kp.new (r := r1) (o := .tup cvs) htp)
  obtain ⟨rfl, t, b, rfl, ty, kt⟩ := isi_ok tab rh2 p2 e
  exact ⟨v, tpa, cvs, t, us, b, rfl, upd_same, hk, ty, kt, q r1 _ _ l1 (k1.trans (Kp.new htp)) rh2 rfl⟩
/-- the classes' names, as arguments -/
theorem pa_cls0 : PA X [] (fun _ H Q => Q [] H) := pa_nil
theorem pa_cls {cl : Expr} {cv : V} {cls : List Expr} {cvs : List V} (h1 : PE X cl (tC cv)) (h2 : PA X cls (fun _ H Q => Q cvs H)) (hs : starEach (cl :: cls) X.env = (false, eval cl X.env) :: starEach cls X.env := by rfl) : PA X (cl :: cls) (fun _ H Q => Q (cv :: cvs) H) :=
  (pa_cons h1 h2 hs).weak fun σ H Q q => q
end
end
end VI
namespace VI
open PySem PySem.Spec PyProof.Rows L2
noncomputable section
section
variable {C : Ct} {X : Cx} {k : Nat} {p : Prog} {call : Nat → U → VH → VR} {cv : U → U → VH → VR} {a b c e o i : Expr} {es rest : List Expr} {ea eb ec el eo ei : VE} {pos pos2 pp apos : Pos} {w : Nat} {x m : Str}
/-! ### a class called -/
theorem c_make {CX : CXT} {A f : Addr} {fd : FuncData} {ps : List Str} {n cl : Nat} (hA : C.CA cl = some A) (M : Mk X.K A f) (F : FnOk X.prog X.w X.K X.mg X.base CX k f fd ps (spU C n (call (p.init cl)))) (hr : Room (k + 1) X.A) (hb : Binds X.K fd ps []) (hx : Passes CX X noX)
    (hl : ∀ s h u h', call (p.init cl) s h = .one u h' → s.len = n) : CallR X (.ref A) (rC C (mkU p call cl)) := by
  intro pins s σ H vs us Q I rv ⟨r, h, s0, u, h', rh, hs, e, q⟩
  have e : h.new (.ins cl .nil) (fun k h => VR.bind (call (p.init cl) (.cons (.ref k) s0) h) fun t h => (Bool.rec (VR.bad 152) (VR.one (.ref k) h) (isNone t) : VR)) = VR.one u h' := e
  rw [VH.new_eq] at e
  obtain ⟨t, h1, e1, e⟩ := bind_one e
  have e : (Bool.rec (VR.bad 152) (VR.one (.ref h.nxt) h1) (isNone t) : VR) = VR.one u h' := e
  cases ht : isNone t with
  | false => rw [ht] at e; cases e
  | true =>
    rw [ht] at e
    cases (show VR.one (.ref h.nxt) h1 = .one u h' from e)
    refine run_make M F hr hb .nil hx I rv (E := noX) fun x dx hx0 hdx hne => ?_
    rw [List.append_nil]
    have rh1 := rh.more (new_keeps (o := .own x) hdx)
    have hx1 : upd H dx (.own x) x = none := by rw [upd_ne (Ne.symm hne)]; exact hx0
    have rh2 := rh1.add (q := .ins A dx []) (o := .ins cl .nil) hx1 ⟨A, dx, [], hA, upd_same, List.nodup_nil, rfl⟩
    have kp : Kp r H (r.put h.nxt x) (upd (upd H dx (.own x)) x (.ins A dx [])) := (Kp.new hdx).trans (rh1.kp_put hx1)
    have hs2 : RpL (r.put h.nxt x) (upd (upd H dx (.own x)) x (.ins A dx [])) (.cons (.ref h.nxt) s0) (.ref x :: vs) := ⟨.ref x, vs, rfl, ⟨x, rfl, r.put_same _ _⟩, hs.mono (rh.le_put x) kp⟩
    refine ⟨hs2.length.trans (hl _ _ _ _ e1), _, _, _, t, _, rh2, hs2, e1, fun r3 H3 v l3 k3 rh3 p3 => ?_⟩
    have hv : v = .non := by
      have z := isNone_ok p3
      rw [ht] at z
      exact of_decide_eq_true z.symm
    exact ⟨hv, q r3 H3 (.ref x) ((rh.le_put x).trans l3) (kp.trans k3) rh3 ⟨x, rfl, l3.ρ _ _ (r.put_same _ _)⟩⟩
theorem r_mk {cl : Nat} {A : Addr} (hc : CallR X (.ref A) (rC C (mkU p call cl))) (hg : Gl X x) (hm : X.mg x = some (.ref A)) (hk : PySem.W.keepIn X.K (.ref A) = true) (ha : SL C X (e :: es) (ev p call el)) (hdb : (x == ("__debug__" : Str)) = false := by decide)
    (he : starEach (e :: es) X.env = (false, eval e X.env) :: starEach es X.env := by rfl) (hpl : (backTo pos (starEach es X.env)).any (·.1) = false := by rfl) : SE C X (.Call (.Name x pp) (e :: es) [] pos) (ev p call (.mk cl el)) := fun c => by
  have P : PE X (.Call (.Name x pp) (e :: es) [] pos) (tCB (rC C (mkU p call cl)) (tSL C (ev p call el c))) := by
    refine ⟨fun pins s σ H Q I h => ?_⟩
    refine wpAny_Call_Name_kw (ld_glob I hg hm ?_ hdb)
    exact PySem.W.callWith_K (h₀ := X.base) I.ok.mod.kin hk (thn ((ha c).run pos pins s σ H _ I h) fun us s1 ⟨vs, H1, I1, r, q⟩ => ⟨I1.kIn, hc pins s1 σ H1 vs us Q I1 r q⟩) he hpl
  exact P.weak (tCBU (g := mkU p call cl))
/-! ### methods of the program's classes -/
/-- what a class tells of the method's name: the def, as a call -/
def MethOk (C : Ct) (X : Cx) (p : Prog) (call : Nat → U → VH → VR) (m : Str) (n : Nat) : Prop :=
  ∀ cl A g, C.CA cl = some A → p.meth cl n = g + 1 → ∃ f, Cls X.K A ∧ Meth X.K A m f ∧ CallR X (.ref f) (rC C (call g))
theorem lookup_none {r : Rf} {H : Hp} {f : Nat} {x : Str} (hf : StrIs f x) : ∀ {fl : List (Str × V)} {fs : U}, RpL r H fs (flatF fl) → ∀ {z w : VR} {n : Nat}, fget fs f z (fun _ => VR.bad n) = w → (∃ n, w = .bad n) ∨ (fl.lookup x = none ∧ z = w)
  | [], fs, h, z, w, n, e => by rw [rpl_flat0 h] at e; exact .inr ⟨rfl, e⟩
  | (y, v) :: fl, fs, h, z, w, n, e => by
    obtain ⟨m, u, t, rfl, hy, hu, ht⟩ := rpl_flat h
    rw [fget_eq, lookup_str (v := v) hy hf] at e
    by_cases hyx : y = x
    · rw [decide_eq_true hyx] at e; exact .inl ⟨n, e.symm⟩
    · rw [decide_eq_false hyx] at e
      rcases lookup_none hf ht e with q | ⟨q1, q2⟩
      · exact .inl q
      · have hb : (x == y) = false := beq_eq_false_iff_ne.mpr fun z => hyx z.symm
        exact .inr ⟨by rw [List.lookup_cons, hb]; exact q1, q2⟩
theorem r_meth {n : Nat} {pl : PySem.Sem Bool} (hn : StrIs n m) (M : MethOk C X p call m n) (ho : SE C X o (ev p call eo)) (ha : SL C X (e :: es) (ev p call el))
    (hst : starEach (e :: es) X.env = (false, eval e X.env) :: starEach es X.env := by rfl) (hpl : (backTo pos (starEach es X.env)).any (·.1) = false := by rfl)
    (ht : eval (.Call (.Attribute o m apos) (e :: es) [] pos) X.env = (do
      let ov ← eval o X.env
      standAt apos.atName
      let (f, first) ← holding [ov] (getMethod ov m pl)
      callWith pos f first (backTo pos (starEach (e :: es) X.env)) (backToKw pos (keywordEach [] X.env))) := by rfl) :
    SE C X (.Call (.Attribute o m apos) (e :: es) [] pos) (ev p call (.meth n eo el)) := fun c => by
  refine ⟨fun pins s0 σ H Q I ⟨r, h, s, u, h', rh, rs, e0, q⟩ => ?_⟩
  obtain ⟨y, h1, e1, e2⟩ := bind_one e0
  refine PySem.W.methodCall_KW (pl := pl) (thn ((ho c).run pins s0 σ H (fun v H1 => ∃ r1, r.Le r1 ∧ Kp r H r1 H1 ∧ RH C r1 H1 h1 ∧ Rp r1 H1 y v) I ⟨r, h, s, y, h1, rh, rs, e1, fun r1 H1 v l1 k1 rh1 p1 => ⟨r1, l1, k1, rh1, p1⟩⟩) fun ov s1 ⟨v, H1, I1, rx, r1, l1, k1, rh1, p1⟩ => ?_) ht
  have e2 : y.caseRef (VR.bad 108) (fun k => h1.at k (VR.bad 108) fun o => VO.rec (fun _ => VR.bad 108) (fun _ => VR.bad 108) (fun cl fs => fget fs n (Nat.rec (VR.bad 109) (fun g _ => VR.bind (ev p call el c s h1) fun z h => call g (.cons y z) h) (p.meth cl n)) (fun _ => VR.bad 110)) o) = VR.one u h' := e2
  obtain ⟨kk, cl, fs, a, A, dx, fl, rfl, rfl, hk, hka, hA, hH, nd, hfl, e3⟩ := ref_ins rh1 p1 e2
  rcases lookup_none hn hfl e3 with ⟨j, z⟩ | ⟨hlk, e4⟩
  · cases z
  · cases hm : p.meth cl n with
    | zero => rw [hm] at e4; cases e4
    | succ g =>
      rw [hm] at e4
      obtain ⟨f, hcl, hmt, hcall⟩ := M cl A g hA hm
      obtain ⟨z, h2, e5, e6⟩ := bind_one (show VR.bind (ev p call el c s h1) (fun z h => call g (.cons (.ref kk) z) h) = .one u h' from e4)
      obtain rfl : ov = Value.ref a := rx
      refine getmeth_ok I1 hH hcl hmt hlk ?_
      refine PySem.W.callWith_K (first := [.ref a]) (h₀ := X.base) I.ok.mod.kin hmt.kp (thn ((ha c).run pos pins s1 σ H1 (fun vs H2 => ∃ r2, r1.Le r2 ∧ Kp r1 H1 r2 H2 ∧ RH C r2 H2 h2 ∧ RpL r2 H2 z vs) I1 ⟨r1, h1, s, z, h2, rh1, rs.mono l1 k1, e5, fun r2 H2 vs l2 k2 rh2 p2 => ⟨r2, l2, k2, rh2, p2⟩⟩) fun us s2 ⟨vs, H2, I2, rv, r2, l2, k2, rh2, p2⟩ => ⟨I2.kIn, ?_⟩) hst hpl
      exact hcall pins s2 σ H2 (.ref a :: vs) (.ref a :: us) Q I2 (.cons rfl rv) ⟨r2, h2, .cons (.ref kk) z, u, h', rh2, ⟨.ref a, vs, rfl, ⟨a, rfl, l2.ρ _ _ hka⟩, p2⟩, e6, fun r3 H3 v l3 k3 rh3 p3 => q r3 H3 v ((l1.trans l2).trans l3) ((k1.trans k2).trans k3) rh3 p3⟩
end
end
end VI
namespace VI
open PySem PySem.Spec PyProof.Rows L2
noncomputable section
section
variable {C : Ct} {X : Cx} {k : Nat} {p : Prog} {call : Nat → U → VH → VR} {cv : U → U → VH → VR} {a b c e o i : Expr} {es rest : List Expr} {ea eb ec el eo ei : VE} {pos pos2 pp apos cpos : Pos} {w : Nat} {x : Str} {name : Str}
/-! ### methods of built-in types -/
/-- what a method of lists or tuples does -/
def BmOk (C : Ct) (X : Cx) (m : Nat) (name : Str) : Prop := ∀ (y : U) (h1 : VH), bmT m y h1 = true → ∀ (r1 : Rf) (H1 : Hp) (x : V), RH C r1 H1 h1 → Rp r1 H1 y x → ∃ T id, PlainAttrs T ∧ Slot T name id ∧ typeOf (Value.builtin id) = (pure (Value.type "method_descriptor") : PySem.Sem Value) ∧
  (∀ pins s σ v, Inv X pins σ H1 s → RelV x v → s.TypeIs v T ∧ ∀ a, v = .ref a → ∃ ob, s.heap.get? a = some ob ∧ ob.dict = none) ∧
  (∀ pins s σ H v vs us r h z u h' Q, r1.Le r → Kp r1 H1 r H → Inv X pins σ H s → RelV x v → Vals vs us → RH C r H h → RpL r H z vs → bmU m y z h = .one u h' → Fo C r H u h' Q → wpAny (model X.prog X.w) X.A (PySem.call (.builtin id) (v :: us)) (EP X pins σ Q) X.xe s)
theorem r_bm {m : Nat} (hm : BmOk C X m name) (ho : SE C X o (ev p call eo)) (ha : SL C X (e :: es) (ev p call el)) (hbase : attributeBase o name X.env (eval o X.env) = eval o X.env := by rfl)
    (hfew : ((backTo cpos (starEach (e :: es) X.env)).all (fun x => !x.1) && (backToKw cpos (keywordEach [] X.env)).all (fun x => x.1.isSome)
      && decide ((e :: es).length + ([] : List Keyword).length + (if ([] : List Keyword).isEmpty then 0 else 1) < 30)) = true := by rfl)
    (hline : (apos.endLine == cpos.line) = true := by rfl) (hs : starEach (e :: es) X.env = (false, eval e X.env) :: starEach es X.env := by rfl) (hplain : (backTo cpos (starEach es X.env)).any (·.1) = false := by rfl) :
    SE C X (.Call (.Attribute o name apos) (e :: es) [] cpos) (ev p call (.bm m eo el)) := fun c => by
  refine ⟨fun pins s0 σ H Q I ⟨r, h, s, u, h', rh, rs, e0, q⟩ => ?_⟩
  obtain ⟨y, h1, e1, e2⟩ := bind_one e0
  have e2 : (Bool.rec (VR.bad 111) (VR.bind (ev p call el c s h1) fun z h => bmU m y z h) (bmT m y h1) : VR) = .one u h' := e2
  cases ht : bmT m y h1 with
  | false => rw [ht] at e2; cases e2
  | true =>
    rw [ht] at e2
    obtain ⟨z, h2, e3, e4⟩ := bind_one (show VR.bind (ev p call el c s h1) (fun z h => bmU m y z h) = .one u h' from e2)
    refine wpAny_Call_method_late hbase hfew hline rfl (thn ((ho c).run pins s0 σ H (fun v H1 => ∃ r1, r.Le r1 ∧ Kp r H r1 H1 ∧ RH C r1 H1 h1 ∧ Rp r1 H1 y v) I ⟨r, h, s, y, h1, rh, rs, e1, fun r1 H1 v l1 k1 rh1 p1 => ⟨r1, l1, k1, rh1, p1⟩⟩) fun ov s1 ⟨v, H1, I1, rx, r1, l1, k1, rh1, p1⟩ => ?_)
    obtain ⟨T, id, pa, slot, hty, tyo, run⟩ := hm y h1 ht r1 H1 v rh1 p1
    obtain ⟨t1, t2⟩ := tyo pins s1 σ ov I1 rx
    refine ⟨T, id, pa, slot, hty, t1, t2, ?_⟩
    have hA := (ha c).run cpos pins s1 σ H1 (fun vs H2 => ∃ r2, r1.Le r2 ∧ Kp r1 H1 r2 H2 ∧ RH C r2 H2 h2 ∧ RpL r2 H2 z vs) I1 ⟨r1, h1, s, z, h2, rh1, rs.mono l1 k1, e3, fun r2 H2 vs l2 k2 rh2 p2 => ⟨r2, l2, k2, rh2, p2⟩⟩
    rw [hs] at hA ⊢
    refine Calls.callWith_builtin (by show (false || (backTo cpos (starEach es X.env)).any (·.1)) = false; rw [hplain] <;> rfl) (Calls.evalArgs_plain ?_)
    exact thn hA fun us s2 ⟨vs, H2, I2, rv, r2, l2, k2, rh2, p2⟩ => run pins s2 σ H2 ov vs us r2 h2 z u h' Q l2 k2 I2 rx rv rh2 p2 e4 fun r3 H3 v l3 k3 rh3 p3 => q r3 H3 v ((l1.trans l2).trans l3) ((k1.trans k2).trans k3) rh3 p3
/-- a list that changes -/
theorem lstM_one {r : Rf} {H : Hp} {h h' : VH} {y w : U} {v : V} {f : Nat → U → VR} (rh : RH C r H h) (hv : Rp r H y v) (e : lstM y h f = .one w h') :
    ∃ k s a xs, y = .ref k ∧ h.find? k = some (.lst s) ∧ v = .ref a ∧ r.ρ k = some a ∧ H a = some (.lst xs) ∧ RpL r H s xs ∧ f k s = .one w h' := by
  cases y with
  | ref k =>
    have e : h.at k (VR.bad 20) (fun o => VO.rec (fun s => f k s) (fun _ => VR.bad 20) (fun _ _ => VR.bad 20) o) = VR.one w h' := e
    rw [VH.at_eq] at e
    cases hk : h.find? k with
    | none => rw [hk] at e; cases e
    | some o =>
      rw [hk] at e
      cases o with
      | lst s =>
        obtain ⟨a, rfl, ha⟩ := (show ∃ a, v = .ref a ∧ r.ρ k = some a from hv)
        obtain ⟨a', e2, xs, g1, g2⟩ := rh.obj k _ hk
        rw [ha] at e2; cases e2
        exact ⟨k, s, a, xs, rfl, hk, rfl, ha, g1, g2, e⟩
      | dct s => cases e
      | ins c fs => cases e
  | _ => cases e
theorem list_ty {y : U} {h1 : VH} {r1 : Rf} {H1 : Hp} {x : V} (ht : y.list h1 false (fun _ => true) = true) (rh1 : RH C r1 H1 h1) (p1 : Rp r1 H1 y x) : ∀ pins s σ v, Inv X pins σ H1 s → RelV x v → s.TypeIs v "list" ∧ ∀ a, v = .ref a → ∃ ob, s.heap.get? a = some ob ∧ ob.dict = none := by
  have : ∃ a xs, x = .ref a ∧ Rd H1 a (.lst xs) := by
    cases y with
    | vl d s => obtain ⟨a, xs, rfl, g1, _⟩ := list_rd (s := s) rh1 p1 (.inl ⟨d, rfl⟩); exact ⟨a, xs, rfl, g1⟩
    | ref k =>
      have ht : h1.at k false (fun o => VO.rec (fun _ => true) (fun _ => false) (fun _ _ => false) o) = true := ht
      rw [VH.at_eq] at ht
      cases hk : h1.find? k with
      | none => rw [hk] at ht; cases ht
      | some o =>
        rw [hk] at ht
        cases o with
        | lst s => obtain ⟨a, xs, rfl, g1, _⟩ := list_rd (s := s) rh1 p1 (.inr ⟨k, rfl, hk⟩); exact ⟨a, xs, rfl, g1⟩
        | dct s => cases ht
        | ins c fs => cases ht
    | _ => cases ht
  obtain ⟨a, xs, rfl, g1⟩ := this
  exact fun pins s σ v I rx => tyV_is I rx (.inl ⟨rfl, xs, .inl g1⟩)
theorem put_lst {r : Rf} {H : Hp} {h : VH} {k : Nat} {a : Addr} {s t : U} {xs ys : List V} {Q : VK} (rh : RH C r H h) (hk : h.find? k = some (.lst s)) (ha : r.ρ k = some a) (hH : H a = some (.lst xs)) (ht : RpL r H t ys) (q : Fo C r H .non (h.put k (.lst t)) Q) : Q .non (upd H a (.lst ys)) := by
  have kp0 : Kp r H r (upd H a (.lst ys)) := Kp.put ha hH (fun _ z => by cases z) (fun _ _ z => by cases z)
  obtain ⟨z1, z2⟩ := rh.put (q := .lst ys) (o' := .lst t) hk ha ⟨ys, upd_same, ht.mono (Rf.Le.refl r) kp0⟩
  exact q r _ .non (Rf.Le.refl r) z2 z1 rfl
theorem bm_append : BmOk C X 0 "append" := fun y h1 ht r1 H1 x rh1 p1 => by
  refine ⟨"list", "list.append", F.plainAttrs_list, F.slot_list_append, F.type_list_append, list_ty ht rh1 p1, fun pins s σ H v vs us r h z u h' Q l k I rx rv rh hz e q => ?_⟩
  obtain ⟨j, s0, a, xs, rfl, hk, rfl, ha, hH, hs, e⟩ := lstM_one rh (p1.mono l k) e
  obtain ⟨y1, v1, e, rfl, hy⟩ := arg1_one hz e
  obtain ⟨e, hlen⟩ := few_one e (by intro z; cases z)
  cases e
  have e1 := hs.length
  have e2 := (hs.app (show RpL r H (.cons y1 .nil) [v1] from ⟨v1, [], rfl, hy, rfl⟩))
  have e3 := e2.length
  rw [List.length_append] at e3
  refine mt_append pins s σ H _ _ v us Q I rx rv ⟨a, xs, v1, rfl, rfl, hH, ?_, put_lst rh hk ha hH e2 q⟩
  have : ([v1] : List V).length = 1 := rfl
  rw [sizeLine_eq]; omega
/-- l.extend(t), t a list that may be frozen -/
theorem mt_extendR {pins : List (Addr × Obj)} {s : Shared} {σ : L2.St} {H : Hp} {v : Value} {us : List Value} {Q : VK} {l b : Addr} {xs zs : List V} (I : Inv X pins σ H s) (rx : RelV (.ref l) v) (rv : Vals [.ref b] us) (hH : H l = some (.lst xs)) (hB : Rd H b (.lst zs)) (hz : xs.length + zs.length ≤ sizeLine) (q : Q .non (upd H l (.lst (xs ++ zs)))) :
    wpAny (model X.prog X.w) X.A (PySem.call (.builtin "list.extend") (v :: us)) (EP X pins σ Q) X.xe s := by
  cases rx
  obtain ⟨u, rfl, ru⟩ := rv.one
  cases ru
  obtain ⟨z, its, n, r, hl, e⟩ := I.lstM hH
  obtain ⟨its2, n2, z2, r2, e2⟩ := lstR I hB
  have hl2 := r2.length
  refine call_meets F.slot_list_extend ⟨_, e, rfl⟩ F.entry_list_extend (F.args_list_extend_2 _ _) (AutoSeq1.list_extend_list_list_0 l its.toArray n b its2.toArray n2 ?_ (by rw [List.size_toArray]; omega) (by rw [List.size_toArray, List.size_toArray]; omega)) ⟨e, e2, ?_⟩
  · rw [notLongL (by rw [List.size_toArray, List.size_toArray]; omega), Bool.and_false]; exact Bool.false_ne_true
  · exact ⟨.non, _, I.lset (its' := its ++ its2) hH e (by simp) (r.append r2) (by rw [List.length_append]; exact hz), rfl, q⟩
theorem bm_extend : BmOk C X 1 "extend" := fun y h1 ht r1 H1 x rh1 p1 => by
  refine ⟨"list", "list.extend", F.plainAttrs_list, F.slot_list_extend, F.type_list_extend, list_ty ht rh1 p1, fun pins s σ H v vs us r h z u h' Q l k I rx rv rh hz e q => ?_⟩
  obtain ⟨j, s0, a, xs, rfl, hk, rfl, ha, hH, hs, e⟩ := lstM_one rh (p1.mono l k) e
  obtain ⟨y1, v1, e, rfl, hy⟩ := arg1_one hz e
  obtain ⟨t, ht2, e⟩ := list_one' (u := y1) e
  obtain ⟨b, zs, rfl, g1, g2⟩ := list_rd rh hy ht2
  obtain ⟨e, hlen⟩ := few_one (show few (s0.app t) (VR.one .non (h.put j (.lst (s0.app t)))) (VR.bad 143) = .one u h' from e) (by intro z; cases z)
  cases e
  have e2 := hs.app g2
  have e3 := e2.length
  rw [List.length_append] at e3
  exact mt_extendR I rx rv hH g1 (by rw [sizeLine_eq]; omega) (put_lst rh hk ha hH e2 q)
/-! ### l[i] = v -/
theorem setn_ok {r : Rf} {H : Hp} {u : U} {v : V} (hv : Rp r H u v) : ∀ {s : U} {xs : List V} (n : Nat), RpL r H s xs → RpL r H (s.setn n u) (xs.set n v)
  | .nil, xs, n, h => by cases (show xs = [] from h); exact rfl
  | .cons a b, xs, 0, h => by obtain ⟨x, ys, rfl, h1, h2⟩ := h; exact ⟨v, ys, rfl, hv, h2⟩
  | .cons a b, xs, n + 1, h => by obtain ⟨x, ys, rfl, h1, h2⟩ := h; exact ⟨x, ys.set n v, rfl, h1, setn_ok hv n h2⟩
  | .non, _, _, h => False.elim h
  | .bl _, _, _, h => False.elim h
  | .int _, _, _, h => False.elim h
  | .str _, _, _, h => False.elim h
  | .tup _ _, _, _, h => False.elim h
  | .vl _ _, _, _, h => False.elim h
  | .vd _, _, _, h => False.elim h
  | .ref _, _, _, h => False.elim h
  | .gf _, _, _, h => False.elim h
  | .clo _ _, _, _, h => False.elim h
theorem dputC_one {α : Type} {s y u : U} {z w : α} {f : U → α} (e : dputC s y u z f = w) (hz : z ≠ w) : dOk s y = true ∧ dlk s y ≠ none ∧ dlen s ≤ 100000 ∧ f (dput s y u) = w := by
  have e : (Bool.rec z (Bool.rec z (dget s y z (f (dput s y u)) (fun _ => f (dput s y u))) (Nat.ble (dlen s) 100000)) (dOk s y) : α) = w := e
  cases h1 : dOk s y with
  | false => rw [h1] at e; exact absurd e hz
  | true =>
    cases h2 : Nat.ble (dlen s) 100000 with
    | false => rw [h1, h2] at e; exact absurd e hz
    | true =>
      rw [h1, h2] at e
      have e : dget s y z (f (dput s y u)) (fun _ => f (dput s y u)) = w := e
      rw [dget_eq] at e
      refine ⟨rfl, ?_, Nat.ble_eq.mp h2, ?_⟩
      · intro h3; rw [h3] at e; exact hz e
      · cases h3 : dlk s y with
        | none => rw [h3] at e; exact absurd e hz
        | some o => rw [h3] at e; cases o <;> exact e
/-- what a store comes to -/
def SetC (x y u : U) (h h2 : VH) : Prop := (∃ k s j n, x = .ref k ∧ h.find? k = some (.lst s) ∧ y = .int j ∧ ixN s.len j = some n ∧ h2 = h.put k (.lst (s.setn n u))) ∨
  ∃ k s, x = .ref k ∧ h.find? k = some (.dct s) ∧ dOk s y = true ∧ dlk s y ≠ none ∧ dlen s ≤ 100000 ∧ h2 = h.put k (.dct (dput s y u))
theorem setU_one {x y u : U} {h : VH} {α : Type} {z w : α} {f : VH → α} (e : setU x y u h z f = w) (hz : z ≠ w) : ∃ h2, SetC x y u h h2 ∧ f h2 = w := by
  cases x with
  | ref k =>
    have e : h.at k z (fun ob => VO.rec (fun s => y.caseInt z fun j => normIx j s.len z (fun n => f (h.put k (.lst (s.setn n u))))) (fun s => dputC s y u z (fun t => f (h.put k (.dct t)))) (fun _ _ => z) ob) = w := e
    rw [VH.at_eq] at e
    cases hk : h.find? k with
    | none => rw [hk] at e; exact absurd e hz
    | some ob =>
      rw [hk] at e
      cases ob with
      | ins c fs => exact absurd e hz
      | lst t =>
        have e : y.caseInt z (fun j => normIx j t.len z (fun n => f (h.put k (.lst (t.setn n u))))) = w := e
        cases y with
        | int j =>
          obtain ⟨n, hn, en⟩ := normIx_ok (i := j) (n := t.len) (z := z) (f := fun n => f (h.put k (.lst (t.setn n u)))) e hz
          exact ⟨_, .inl ⟨k, t, j, n, rfl, hk, rfl, hn, rfl⟩, en⟩
        | _ => exact absurd e hz
      | dct t =>
        obtain ⟨h1, h2, h3, h4⟩ := dputC_one (show dputC t y u z (fun t => f (h.put k (.dct t))) = w from e) hz
        exact ⟨_, .inr ⟨k, t, rfl, hk, h1, h2, h3, rfl⟩, h4⟩
  | _ => exact absurd e hz
theorem delU_one {x y : U} {h : VH} {α : Type} {z w : α} {f : VH → α} (e : delU x y h z f = w) (hz : z ≠ w) : ∃ k s u, x = .ref k ∧ h.find? k = some (.dct s) ∧ dOk s y = true ∧ dlk s y = some (some u) ∧ f (h.put k (.dct (ddel s y))) = w := by
  cases x with
  | ref k =>
    have e : h.at k z (fun ob => VO.rec (fun _ => z) (fun s => dgetC s y z z (fun _ => f (h.put k (.dct (ddel s y))))) (fun _ _ => z) ob) = w := e
    rw [VH.at_eq] at e
    cases hk : h.find? k with
    | none => rw [hk] at e; exact absurd e hz
    | some ob =>
      rw [hk] at e
      cases ob with
      | ins c fs => exact absurd e hz
      | lst t => exact absurd e hz
      | dct t =>
        have e : dgetC t y z z (fun _ => f (h.put k (.dct (ddel t y)))) = w := e
        rw [dgetC_eq] at e
        by_cases ok : dOk t y = true
        · rw [if_pos ok] at e
          cases hq : dlk t y with
          | none => rw [hq] at e; exact absurd e hz
          | some o =>
            rw [hq] at e
            cases o with
            | none => exact absurd e hz
            | some u => exact ⟨k, t, u, rfl, hk, ok, hq, e⟩
        · rw [if_neg ok] at e; exact absurd e hz
  | _ => exact absurd e hz
/-- an object of the evaluation that is a dict is another from now on -/
theorem put_dct {r : Rf} {H : Hp} {h : VH} {k : Nat} {a : Addr} {s t : U} {ob : HO} (rh : RH C r H h) (hk : h.find? k = some (.dct s)) (ha : r.ρ k = some a) (hq : ∀ H', Kq H H' → H' a = some ob → RO C r H' a (.dct t)) : RH C r (upd H a ob) (h.put k (.dct t)) ∧ Kp r H r (upd H a ob) := by
  obtain ⟨a', e, q⟩ := rh.obj k _ hk
  rw [ha] at e; cases e
  obtain ⟨o, e1, n1, n2, _⟩ := q.dct_mu
  exact rh.put hk ha (hq _ (kq_upd e1 n1 n2) upd_same)
def rSetU (C : Ct) : TSet := fun o i v H Q => ∃ r h x y u h2, RH C r H h ∧ Rp r H x o ∧ Rp r H y i ∧ Rp r H u v ∧ SetC x y u h h2 ∧ ∀ r' H', r.Le r' → Kp r H r' H' → RH C r' H' h2 → Q H'
theorem set_U (xc : XC C X k) : PSet X (rSetU C) := by
  intro pins s σ H o i v ov iv uv Q I ro ri rv ⟨r, h, x, y, u, h2, rh, p1, p2, p3, sc, q⟩
  rcases sc with ⟨k0, t, j, n, rfl, hk, rfl, hn, rfl⟩ | ⟨k0, t, rfl, hk, ok, hl, hz, rfl⟩
  · obtain ⟨a, rfl, hka⟩ := (show ∃ a, o = .ref a ∧ r.ρ k0 = some a from p1)
    obtain ⟨a', e4, xs, g1, g2⟩ := rh.obj k0 _ hk
    rw [hka] at e4; cases e4
    have g3 := setn_ok p3 n g2
    have kp0 : Kp r H r (upd H a (.lst (xs.set n v))) := Kp.put hka g1 (fun _ z => by cases z) (fun _ _ z => by cases z)
    obtain ⟨q1, q2⟩ := rh.put (q := .lst (xs.set n v)) (o' := .lst (t.setn n u)) hk hka ⟨_, upd_same, g3.mono (Rf.Le.refl r) kp0⟩
    exact set_list pins s σ H _ _ v ov iv uv Q I ro ri rv ⟨a, xs, j, n, rfl, p2, g1, by rw [g2.length]; exact hn, q r _ (Rf.Le.refl r) q2 q1⟩
  · obtain ⟨a, rfl, hka⟩ := (show ∃ a, o = .ref a ∧ r.ρ k0 = some a from p1)
    obtain ⟨a', e4, z4⟩ := rh.obj k0 _ hk
    rw [hka] at e4; cases e4
    cases ro
    obtain ⟨ob, hob, run⟩ := dv_set (A := X.A) (E := X.xe) I (rh.w.trans xc.w.symm) z4 p2 ri p3 rv ok hl hz
    obtain ⟨q1, q2⟩ := put_dct rh hk hka hob
    exact (run (fun _ s' => ∃ H', Inv X pins σ H' s' ∧ Q H') fun s' I' => ⟨_, I', q r _ (Rf.Le.refl r) q2 q1⟩).2 (by have := xc.room.un; omega)
theorem q_asgI (xc : XC C X k) (ho : SE C X o (ev p call eo)) (hi : SE C X i (ev p call ei)) (ha : SE C X a (ev p call ea)) (hs : swapsWithSole [.Subscript o i pos2] a pos.line X.env = pure false := by rfl) (hw : swappedStores [.Subscript o i pos2] a X.env = pure none := by rfl)
    (h1 : (assignEach [.Subscript o i pos2] X.env).map (·.2) = [assign (.Subscript o i pos2) X.env] := by rfl)
    (hG : ∀ v, assign (.Subscript o i pos2) X.env v = (do
      let ov ← holding [v] (eval o X.env)
      let iv ← holding [v, ov] (eval i X.env)
      standAt pos2
      holding [v, ov, iv] (setItem ov iv v)
      release [v, ov, iv] []) := by intro _; rfl) : SX C X p call w (.Assign [.Subscript o i pos2] a pos) (.asgI eo ei ea) := by
  refine (ps_asg (ha .nil) (pg_sub (ho .nil) (hi .nil) (set_U (C := C) xc) hG) hs hw h1).weak fun D σ H ⟨r, h, s, rh, rs, out⟩ => ?_
  obtain ⟨u, h1, e1, out⟩ := ofR_out out
  refine ⟨r, h, s, u, h1, rh, rs, e1, fun r1 H1 v l1 k1 rh1 p1 => ?_⟩
  obtain ⟨y, h2, e2, out⟩ := ofR_out out
  refine ⟨r1, h1, s, y, h2, rh1, rs.mono l1 k1, e2, fun r2 H2 v2 l2 k2 rh2 p2 => ?_⟩
  obtain ⟨z, h3, e3, out⟩ := ofR_out out
  refine ⟨r2, h2, s, z, h3, rh2, (rs.mono l1 k1).mono l2 k2, e3, fun r3 H3 v3 l3 k3 rh3 p3 => ?_⟩
  obtain ⟨h4, sc, e4⟩ := setU_one (x := y) (y := z) (u := u) (h := h3) (z := VRS.bad 132) (f := fun h => VRS.nx s h) rfl (fun zz => by
    have out : Out C r H D (setU y z u h3 (VRS.bad 132) (fun h => VRS.nx s h)) := out
    rw [← zz] at out; exact out)
  have out : Out C r H D (setU y z u h3 (VRS.bad 132) (fun h => VRS.nx s h)) := out
  rw [← e4] at out
  refine ⟨r3, h3, y, z, u, h4, rh3, p2.mono l3 k3, p3, p1.mono (l2.trans l3) (k2.trans k3), sc, fun r4 H4 l4 k4 rh4 => ?_⟩
  have ll := ((l1.trans l2).trans l3).trans l4
  have kk := ((k1.trans k2).trans k3).trans k4
  exact out r4 H4 σ ll kk rh4 (rs.mono ll kk)
theorem q_del (xc : XC C X k) (ho : SE C X o (ev p call eo)) (hi : SE C X i (ev p call ei)) : SX C X p call w (.Delete [.Subscript o i pos2] pos) (.del eo ei) := by
  refine ⟨fun pins s0 σ H D I ⟨r, h, s, rh, rs, out⟩ => ?_⟩
  obtain ⟨y, h2, e2, out⟩ := ofR_out out
  obtain ⟨z, h3, e3, out⟩ := ofR_out out
  have out : Out C r H D (delU y z h3 (VRS.bad 133) (fun h => VRS.nx s h)) := out
  obtain ⟨k0, t, u, rfl, hk, ok, hl, e4⟩ := delU_one (x := y) (y := z) (h := h3) (z := VRS.bad 133) (f := fun h => VRS.nx s h) rfl (fun zz => by rw [← zz] at out; exact out)
  rw [← e4] at out
  refine wpAny_Delete (wpAny_deleteEach_cons (wpAny_delete_Subscript (thn ((ho .nil).run pins s0 σ H (fun v H2 => ∃ r2, r.Le r2 ∧ Kp r H r2 H2 ∧ RH C r2 H2 h2 ∧ Rp r2 H2 (.ref k0) v) I ⟨r, h, s, _, h2, rh, rs, e2, fun r2 H2 v2 l2 k2 rh2 p2 => ⟨r2, l2, k2, rh2, p2⟩⟩) fun uw s1 ⟨v2, H2, I2, rx, r2, l2, k2, rh2, p2⟩ => thn ((hi .nil).run pins s1 σ H2 (fun v H3 => ∃ r3, r2.Le r3 ∧ Kp r2 H2 r3 H3 ∧ RH C r3 H3 h3 ∧ Rp r3 H3 z v) I2 ⟨r2, h2, s, z, h3, rh2, rs.mono l2 k2, e3, fun r3 H3 v3 l3 k3 rh3 p3 => ⟨r3, l3, k3, rh3, p3⟩⟩) fun iv s2 ⟨v3, H3, I3, ry, r3, l3, k3, rh3, p3⟩ => ?_)))
  obtain ⟨a, rfl, hka2⟩ := (show ∃ a, v2 = .ref a ∧ r2.ρ k0 = some a from p2)
  have hka := l3.ρ k0 a hka2
  obtain ⟨a', e5, z4⟩ := rh3.obj k0 _ hk
  rw [hka] at e5; cases e5
  obtain rfl : uw = Value.ref a := rx
  obtain ⟨ob, hob, run⟩ := dv_del (A := X.A) (E := X.xe) I3 (rh3.w.trans xc.w.symm) z4 p3 ry ok hl
  obtain ⟨q1, q2⟩ := put_dct rh3 hk hka hob
  refine run _ (fun s' I' => ?_) (by have := xc.room.un; omega)
  refine wpAny_deleteEach_nil ⟨σ, _, I', ?_⟩
  have ll := l2.trans l3
  have kk := (k2.trans k3).trans q2
  exact out r3 _ σ ll kk q1 (rs.mono ll kk)
/-! ### asking a dict with a default -/
theorem dict_ty (xc : XC C X k) {y : U} {h1 : VH} {r1 : Rf} {H1 : Hp} {x : V} (ht : y.dict h1 false (fun _ => true) = true) (rh1 : RH C r1 H1 h1) (p1 : Rp r1 H1 y x) : ∀ pins s σ v, Inv X pins σ H1 s → RelV x v → s.TypeIs v "dict" ∧ ∀ a, v = .ref a → ∃ ob, s.heap.get? a = some ob ∧ ob.dict = none := by
  rcases dict_cases y h1 false (fun _ => true) with ⟨t, hd, _⟩ | ⟨_, e⟩
  case inr => rw [e] at ht; cases ht
  obtain ⟨a, rfl, dr⟩ := drep_of rh1 p1 hd
  intro pins s σ v I rx
  cases rx
  obtain ⟨_, _, es, ep, ks, ⟨o, g1, g2, _⟩, _⟩ := dv_raw (P := X.prog) I.hok (rh1.w.trans xc.w.symm) dr
  refine ⟨⟨o, g1, g2.1⟩, fun b hb => ?_⟩
  cases hb
  exact ⟨o, g1, g2.2.1⟩
theorem bm_getD (xc : XC C X k) : BmOk C X 6 "get" := fun y h1 ht r1 H1 x rh1 p1 => by
  refine ⟨"dict", "dict.get", F.plainAttrs_dict, F.slot_dict_get, F.type_dict_get, dict_ty xc ht rh1 p1, fun pins s σ H v vs us r h z u h' Q l kq I rx rv rh hz e q => ?_⟩
  obtain ⟨t, hd, e⟩ := dict_one (show y.dict h (VR.bad 24) (fun s => arg2 z fun y z => dgetC s y (VR.bad 24) (.one z h) (fun v => .one v h)) = .one u h' from e)
  obtain ⟨y1, y2, v1, v2, e, rfl, hy1, hy2⟩ := arg2_one hz e
  obtain ⟨ok, e⟩ := dgetC_one e
  obtain ⟨a, rfl, dr⟩ := drep_of rh (p1.mono l kq) hd
  cases rx
  cases rv with
  | cons ra rb =>
    obtain ⟨w2, rfl, rb2⟩ := L2.Vals.one rb
    rename_i w1 _
    have hw := rh.w.trans xc.w.symm
    obtain ⟨hm, dv⟩ := dview (P := X.prog) I.hok hw dr hy1 ra ok
    obtain ⟨ow, q1, q2, q3⟩ := dv.look hy1
    have fin : ∀ tk, EP X pins σ Q (ow.getD w2) { s with toks := tk } := fun tk => by
      rcases e with ⟨hl, e⟩ | ⟨u1, hl, e⟩
      · cases e
        rw [q1 hl]
        exact ⟨v2, H, I.tok _, rb2, q.here rh hy2⟩
      · cases e
        obtain ⟨wv, v, rfl, e2, e3⟩ := q2 _ hl
        exact ⟨v, H, I.tok _, e2, q.here rh e3⟩
    rcases q3 with ⟨vs, kk, g1, g2, g3⟩ | ⟨xs, kk, b, rfl, g1, g2, g3⟩
    · refine call_meetsIn F.slot_dict_get g2.typeIs F.entry_dict_get (F.args_dict_get_3 _ _ _) (meets_dict_get_default (mixKind X.prog X.w) a g1 hm w2) ⟨_, g2.mapOf, ?_⟩
      rw [← g3]; exact fin _
    · refine call_meetsIn F.slot_dict_get g2.typeIs F.entry_dict_get (F.args_dict_get_3 _ _ _) (meetsH_dict_get_default (nestedKind X.prog X.w) a b hm w2) ⟨nroom (by have := xc.room.un; omega), kk, xs, g1, g2, ?_⟩
      rw [← g3]; exact fin _
/-! ### the place of an item -/
theorem find_ok {y : U} {h h' : VH} {d : PyData} (hd : uD y = some d) : ∀ {s : U} {ds : List PyData} {i : Nat} {u : U}, uL s = some ds → findU y h s i = .one u h' →
    ∃ j z, h' = h ∧ u = .int ((i + j : Nat) : Int) ∧ ds[j]? = some z ∧ PyData.eqv z d = true ∧ ∀ m z', m < j → ds[m]? = some z' → PyData.eqv z' d = false
  | .nil, ds, i, u, hs, e => by cases e
  | .cons a t, ds, i, u, hs, e => by
    obtain ⟨x, xs, rfl, h1, h2⟩ := uL_cons hs
    have q := (eqU_ok a y).1 x d h1 hd
    have e : (Tri.rec (findU y h t (i + 1)) (.one (.int (.ofNat i)) h) (.bad 23) (eqU a y) : VR) = .one u h' := e
    cases he : eqU a y with
    | no =>
      rw [he] at e
      obtain ⟨j, z, e1, e2, e3, e4, e5⟩ := find_ok hd h2 e
      refine ⟨j + 1, z, e1, by rw [e2]; congr 2; omega, e3, e4, fun m z' hm hz => ?_⟩
      cases m with
      | zero => cases (show some x = some z' from hz); exact q.2 he
      | succ m => exact e5 m z' (by omega) hz
    | yes =>
      rw [he] at e
      cases e
      exact ⟨0, x, rfl, rfl, rfl, q.1 he, fun m z' hm => absurd hm (Nat.not_lt_zero _)⟩
    | unk => rw [he] at e; cases e
  | .non, _, _, _, hs, _ => by cases hs
  | .bl _, _, _, _, hs, _ => by cases hs
  | .int _, _, _, _, hs, _ => by cases hs
  | .str _, _, _, _, hs, _ => by cases hs
  | .tup _ _, _, _, _, hs, _ => by cases hs
  | .vl _ _, _, _, _, hs, _ => by cases hs
  | .vd _, _, _, _, hs, _ => by cases hs
  | .ref _, _, _, _, hs, _ => by cases hs
  | .gf _, _, _, _, hs, _ => by cases hs
  | .clo _ _, _, _, _, hs, _ => by cases hs
/-- t.index(x) of data at any depth -/
theorem mt_tupIndex {pins : List (Addr × Obj)} {s : Shared} {σ : L2.St} {H : Hp} {v : Value} {us : List Value} {Q : VK} {t : Addr} {y : V} {d z : PyData} {ds : List PyData} {j : Nat} (hu : X.A.units + 65 < cLine) (I : Inv X pins σ H s) (rx : RelV (.ref t) v) (rv : Vals [y] us)
    (hl : Dp X.K H (.ref t) (.tuple ds)) (hy : Dp X.K H y d) (sl : SeqAt.shaped (.tuple ds) = true) (sd : SeqAt.shaped d = true) (hz : ds[j]? = some z) (hit : PyData.eqv z d = true) (hno : ∀ m z', m < j → ds[m]? = some z' → PyData.eqv z' d = false) (q : Q (.int ((j : Nat) : Int)) H) :
    wpAny (model X.prog X.w) X.A (PySem.call (.builtin "tuple.index") (v :: us)) (EP X pins σ Q) X.xe s := by
  cases rx
  obtain ⟨uy, rfl, ry⟩ := rv.one
  obtain ⟨bs, rd⟩ := Dp.reads I d y uy hy ry
  have lay : PyData.canLayAll0 ds = true := SeqAt.canLay_of_shaped sl
  have room : X.A.units + 1 + min (PyData.depthAll ds) d.depth < cLine := room_in_shaped sd hu
  cases hl with
  | tup hs ha =>
    obtain ⟨its, rv2, ⟨⟨cls, dd, data, sls⟩, ho, hc, n, hdt⟩, hlen⟩ := I.tuple hs
    simp only at hc hdt
    subst hc hdt
    obtain ⟨as, ra⟩ := Dp.readsAll I ds _ its ha rv2
    have en : its.length = ds.length := SeqAt.ReadsAll.length ds its as ra
    have em : its.map (SeqAt.readOf s.heap) = ds := SeqAt.readsAll_map ds its as lay ra
    have here : ∀ m (hm : m < its.toArray.size) z', ds[m]? = some z' → SeqAt.readOf s.heap its.toArray[m] = z' := fun m hm z' e => by
      have hm' : m < its.length := by simpa using hm
      rw [← em, List.getElem?_map, List.getElem?_eq_getElem hm'] at e
      have e' : SeqAt.readOf s.heap its[m] = z' := by simpa using e
      simpa using e'
    have jd : j < ds.length := (List.getElem?_eq_some_iff.mp hz).1
    have jl : j < its.toArray.size := by simp; omega
    refine call_meets PySem.F.slot_tuple_index ⟨_, ho, rfl⟩ PySem.F.entry_tuple_index (PySem.F.args_tuple_index_2 _ _) (TI.tuple_indexAt t its.toArray n dd sls uy (fun u => PyData.eqv (SeqAt.readOf s.heap u) d) j jl ?_ ?_)
      ⟨ho, SeqAt.items_eqAt (vs := its.toArray) (show ReadsAll s.heap its.toArray.toList ds as from ra) rd lay (SeqAt.canLay_of_shaped sd) room, ?_⟩
    · show PyData.eqv _ d = true
      rw [here j jl z hz]; exact hit
    · intro m hm hmj
      have e : ds[m]? = some ds[m] := List.getElem?_eq_getElem (by omega)
      show PyData.eqv _ d = false
      rw [here m hm _ e]; exact hno m _ hmj e
    · exact ⟨.int (j : Nat), H, I.tok _, ⟨_, rfl⟩, q⟩
/-- what index tells -/
def IdxIs (K : PySem.W.Frag) (H : Hp) (x : V) (vs : List V) (h h' : VH) (u : U) (tp : Bool) : Prop := ∃ ds d v1 j w, vs = [v1] ∧ h' = h ∧ u = .int ((j : Nat) : Int) ∧ Dp K H x (if tp = true then .tuple ds else .list ds) ∧ SeqAt.shaped (if tp = true then .tuple ds else .list ds) = true ∧
  Dp K H v1 d ∧ SeqAt.shaped d = true ∧ ds[j]? = some w ∧ PyData.eqv w d = true ∧ ∀ m z', m < j → ds[m]? = some z' → PyData.eqv z' d = false
def isTup : U → Bool
  | .tup _ _ => true
  | _ => false
theorem idx_core {r : Rf} {H : Hp} {h h' : VH} {x : V} {y z u : U} {vs : List V} (K : PySem.W.Frag) (rh : RH C r H h) (hx : Rp r H y x) (hz : RpL r H z vs) (e : bmU 4 y z h = .one u h') : IdxIs K H x vs h h' u (isTup y) := by
  have e : (Nat.rec (VR.bad 23) (fun _ _ => y.seq h (VR.bad 23) (fun s => arg1 z fun a => findU a h s 0)) (dpI (y.look h)) : VR) = .one u h' := e
  cases hd : dpI (y.look h) with
  | zero => rw [hd] at e; cases e
  | succ n =>
    rw [hd] at e
    obtain ⟨dd, e1, g1, s1⟩ := look_dp K rh hx (by rw [hd]; exact Nat.succ_ne_zero _)
    have e : y.seq h (VR.bad 23) (fun s => arg1 z fun a => findU a h s 0) = .one u h' := e
    have fin : ∀ s ds, uL s = some ds → (arg1 z fun a => findU a h s 0) = .one u h' → dd = (if isTup y = true then .tuple ds else .list ds) → IdxIs K H x vs h h' u (isTup y) := by
      intro s ds hs e ed
      obtain ⟨a, v1, e, rfl, ha⟩ := arg1_one hz e
      have ha0 : dpI a ≠ 0 := by
        cases s with
        | cons b t =>
          have e : (Tri.rec (findU a h t 1) (.one (.int (.ofNat 0)) h) (.bad 23) (eqU b a) : VR) = .one u h' := e
          have nu : eqU b a ≠ .unk := fun zz => by rw [zz] at e; cases e
          obtain ⟨x0, xs0, _, hb, _⟩ := uL_cons hs
          have vb : isV b = true := by cases b <;> first | rfl | cases hb
          exact (eqU_dp vb (isV_of ha) nu).2
        | nil => cases e
        | _ => cases hs
      obtain ⟨d, ed2, g2, s2⟩ := data_shaped K ha ha0
      obtain ⟨j, w, q1, q2, q3, q4, q5⟩ := find_ok ed2 hs e
      exact ⟨ds, d, v1, j, w, rfl, q1, by rw [q2, Nat.zero_add], ed ▸ g1, ed ▸ s1, g2, s2, q3, q4, q5⟩
    cases y with
    | tup k s => obtain ⟨ds, rfl, hs⟩ := uD_tup (show uD (.tup k s) = some dd from e1); exact fin s ds hs e rfl
    | vl k s => obtain ⟨ds, rfl, hs⟩ := uD_vl (show uD (.vl k s) = some dd from e1); exact fin s ds hs e rfl
    | ref k =>
      have e : h.at k (VR.bad 23) (fun o => VO.rec (fun s => arg1 z fun a => findU a h s 0) (fun _ => VR.bad 23) (fun _ _ => VR.bad 23) o) = VR.one u h' := e
      rw [VH.at_eq] at e
      cases hk : h.find? k with
      | none => rw [hk] at e; cases e
      | some ob =>
        rw [hk] at e
        cases ob with
        | lst s =>
          rw [look_ref, hk] at e1
          obtain ⟨ds, rfl, hs⟩ := uD_vl (show uD (.vl _ s) = some dd from e1)
          exact fin s ds hs e rfl
        | dct s => cases e
        | ins c fs => cases e
    | _ => cases e
theorem bm_index (hu : X.A.units + 65 < cLine) : BmOk C X 4 "index" := fun y h1 ht r1 H1 x rh1 p1 => by
  cases ty : isTup y with
  | true =>
    have tyo : ∀ pins s σ v, Inv X pins σ H1 s → RelV x v → s.TypeIs v "tuple" ∧ ∀ a, v = .ref a → ∃ ob, s.heap.get? a = some ob ∧ ob.dict = none := by
      intro pins s σ v I rx
      cases y with
      | tup k s0 =>
        obtain ⟨a, o, xs, rfl, ⟨g1, g0⟩, _⟩ := tup_rd p1
        cases rx
        obtain ⟨e1, _, its, _, o2, e2, hc, _⟩ := I.hok a _ g1
        rw [e1] at e2; cases e2
        refine ⟨⟨o, e1, hc⟩, fun b hb => ?_⟩
        cases hb
        exact ⟨o, e1, g0⟩
      | _ => cases ty
    refine ⟨"tuple", "tuple.index", F.plainAttrs_tuple, F.slot_tuple_index, F.type_tuple_index, tyo, fun pins s σ H v vs us r h z u h' Q l k I rx rv rh hz e q => ?_⟩
    obtain ⟨ds, d, v1, j, w, rfl, rfl, rfl, g1, s1, g2, s2, q1, q2, q3⟩ := idx_core X.K rh (p1.mono l k) hz e
    rw [ty, if_pos rfl] at g1 s1
    have : ∃ a, x = .ref a := by cases y with
      | tup k s0 => obtain ⟨a, o, xs, rfl, _⟩ := tup_rd p1; exact ⟨a, rfl⟩
      | _ => cases ty
    obtain ⟨a, rfl⟩ := this
    exact mt_tupIndex hu I rx rv g1 g2 s1 s2 q1 q2 q3 (q.here rh rfl)
  | false =>
    have hl : y.list h1 false (fun _ => true) = true := by
      cases y with
      | tup k s0 => cases ty
      | vl k s0 => rfl
      | ref k => exact ht
      | _ => cases ht
    refine ⟨"list", "list.index", F.plainAttrs_list, F.slot_list_index, F.type_list_index, list_ty hl rh1 p1, fun pins s σ H v vs us r h z u h' Q l k I rx rv rh hz e q => ?_⟩
    obtain ⟨ds, d, v1, j, w, rfl, rfl, rfl, g1, s1, g2, s2, q1, q2, q3⟩ := idx_core X.K rh (p1.mono l k) hz e
    rw [ty, if_neg (by decide)] at g1 s1
    cases g1 with
    | lst hs ha => exact mt_indexD hu pins s σ H _ _ v us Q I rx rv ⟨_, v1, d, ds, j, w, rfl, rfl, .lst hs ha, g2, s1, s2, q1, q2, q3, q.here rh rfl⟩
end
end
end VI
namespace VI
open PySem PySem.Spec PyProof.Rows L2
noncomputable section
theorem nthU_not {s : U} (h : ∀ a b, s ≠ .cons a b) (i : Nat) : nthU s i = none := by
  cases s with
  | cons a b => exact absurd rfl (h a b)
  | _ => rfl
theorem nth_zip : ∀ (s t : U) (i : Nat), nthU (zipS s t) i = match nthU s i, nthU t i with | some a, some b => some (mkT (.cons a (.cons b .nil))) | _, _ => none
  | .cons a s, t, i => by
    cases t with
    | cons b t =>
      cases i with
      | zero => rfl
      | succ i => exact nth_zip s t i
    | _ =>
      show nthU .nil i = match nthU (.cons a s) i, (none : Option U) with | some a, some b => some (mkT (.cons a (.cons b .nil))) | _, _ => none
      cases nthU (.cons a s) i <;> rfl
  | .nil, t, i => rfl
  | .non, t, i => rfl
  | .bl _, t, i => rfl
  | .int _, t, i => rfl
  | .str _, t, i => rfl
  | .tup _ _, t, i => rfl
  | .vl _ _, t, i => rfl
  | .vd _, t, i => rfl
  | .ref _, t, i => rfl
  | .gf _, t, i => rfl
  | .clo _ _, t, i => rfl
def enumG (s : U) : Nat → U := U.sp (α := Nat → U) (fun _ => .nil) (fun a _ ih i => .cons (mkT (.cons (.int (.ofNat i)) (.cons a .nil))) (ih (Nat.succ i))) s
theorem nth_enum : ∀ (s : U) (k i : Nat), nthU (enumG s k) i = (nthU s i).map fun a => mkT (.cons (.int (.ofNat (k + i))) (.cons a .nil))
  | .cons a s, k, 0 => rfl
  | .cons a s, k, i + 1 => by
    show nthU (enumG s (k + 1)) i = (nthU s i).map _
    rw [nth_enum s (k + 1) i]
    have : k + 1 + i = k + (i + 1) := by omega
    rw [this]
  | .nil, k, i => rfl
  | .non, k, i => rfl
  | .bl _, k, i => rfl
  | .int _, k, i => rfl
  | .str _, k, i => rfl
  | .tup _ _, k, i => rfl
  | .vl _ _, k, i => rfl
  | .vd _, k, i => rfl
  | .ref _, k, i => rfl
  | .gf _, k, i => rfl
  | .clo _ _, k, i => rfl
section
variable {C : Ct} {X : Cx} {k : Nat} {p : Prog} {call : Nat → U → VH → VR} {a b e : Expr} {ea eb : VE} {elts : List Expr} {kk : Nat} {tpos pos pp : Pos}
theorem at_zip {r : Rf} {H : Hp} {s t : U} {xs ys : List V} {J : It} (i : Nat) (hs : RpL r H s xs) (ht : RpL r H t ys)
    (go : ∀ x y, xs[i]? = some x → ys[i]? = some y → J.go i H) (yl : ∀ v H', J.yld i H v H' → ∃ T x y, v = .ref T ∧ H T = none ∧ H' = upd H T (.tup [x, y]) ∧ xs[i]? = some x ∧ ys[i]? = some y) (st : xs.length ≤ i ∨ ys.length ≤ i → J.stop i H) : At C true J r H (zipS s t) i := by
  obtain ⟨s1, s2⟩ := nthU_ok (i := i) hs
  obtain ⟨t1, t2⟩ := nthU_ok (i := i) ht
  rw [At, nth_zip]
  refine ⟨fun c e => ?_, fun e => ?_⟩
  · cases h1 : nthU s i with
    | none => rw [h1] at e; cases e
    | some a =>
      cases h2 : nthU t i with
      | none => rw [h1, h2] at e; cases e
      | some b =>
        rw [h1, h2] at e
        cases (show some (mkT (.cons a (.cons b .nil))) = some c from e)
        obtain ⟨x, hx, px⟩ := s1 a h1
        obtain ⟨y, hy, py⟩ := t1 b h2
        refine ⟨go x y hx hy, fun v H' z => ?_⟩
        obtain ⟨T, x', y', rfl, hT, rfl, hx', hy'⟩ := yl v H' z
        rw [hx] at hx'; cases hx'
        rw [hy] at hy'; cases hy'
        have kp : Kp r H r (upd H T (.tup [x, y])) := Kp.new hT
        exact ⟨kp, fun h rh => rh.more (new_keeps hT), .inr ⟨rfl, _, _, T, [x, y], rfl, rfl, upd_same, ⟨x, [y], rfl, px.mono (Rf.Le.refl r) kp, y, [], rfl, py.mono (Rf.Le.refl r) kp, rfl⟩⟩⟩
  · cases h1 : nthU s i with
    | none => exact st (.inl (s2 h1))
    | some a =>
      cases h2 : nthU t i with
      | none => exact st (.inr (t2 h2))
      | some b => rw [h1, h2] at e; cases e
theorem i_zip (hg : Gl X "zip") (hm : X.mg "zip" = none) (ha : SE C X a (ev p call ea)) (hb : SE C X b (ev p call eb)) (hs : starEach [a, b] X.env = (false, eval a X.env) :: starEach [b] X.env := by rfl) (hs2 : starEach [b] X.env = (false, eval b X.env) :: starEach [] X.env := by rfl) (hpl : (backTo pos (starEach [b] X.env)).any (·.1) = false := by rfl) :
    SI C X true (.Tuple elts kk tpos) (.Call (.Name "zip" pp) [a, b] [] pos) (ev p call (.zip ea eb)) := by
  refine (RZ.pi_zipA hg hm (pa_cons (ha .nil) (pa_cons (hb .nil) pa_nil hs2) hs) hs hpl).weak fun σ H R ⟨r, h, s, u, h', rh, rs, e, n, q⟩ => ?_
  obtain ⟨x, h1, e1, e⟩ := bind_one e
  obtain ⟨y, h2, e2, e⟩ := bind_one e
  refine ⟨r, h, s, x, h1, rh, rs, e1, fun r1 H1 v1 l1 k1 rh1 p1 => ⟨r1, h1, s, y, h2, rh1, rs.mono l1 k1, e2, fun r2 H2 v2 l2 k2 rh2 p2 => ?_⟩⟩
  have p1 := p1.mono l2 k2
  cases x with
  | tup d s0 =>
    cases y with
    | tup d2 t0 =>
      cases (show VR.one (mkL (zipS s0 t0)) h2 = .one u h' from e)
      obtain ⟨a1, o1, xs, rfl, ⟨g1, _⟩, g2⟩ := tup_rd p1
      obtain ⟨a2, o2, ys, rfl, ⟨g3, _⟩, g4⟩ := tup_rd p2
      refine ⟨a1, a2, xs, ys, rfl, .inr ⟨SqT.ofF g1, SqT.ofF g3, q r2 H2 _ (l1.trans l2) (k1.trans k2) rh2 ⟨fun z hz i r3 H3 l3 k3 => ?_, fun k hz => by cases hz⟩⟩⟩
      cases hz
      have f1 := k3.frz _ _ _ g1
      have f2 := k3.frz _ _ _ g3
      refine at_zip i (g2.monoq l3 k3) (g4.monoq l3 k3) (fun x y hx hy => ⟨xs, ys, x, y, SqT.ofF f1, SqT.ofF f2, hx, hy⟩) (fun v H' ⟨T, x, y, e1, e2, e3, e4, e5⟩ => ⟨T, x, y, e1, e2, e3, e4 xs (SqT.ofF f1), e5 ys (SqT.ofF f2)⟩) (fun z => ⟨xs, ys, SqT.ofF f1, SqT.ofF f2, z⟩)
    | _ => cases e
  | vl d s0 =>
    cases y with
    | vl d2 t0 =>
      cases (show VR.one (mkL (zipS s0 t0)) h2 = .one u h' from e)
      obtain ⟨a1, o1, xs, rfl, g1, g2, _⟩ := (show ∃ a o xs, v1 = .ref a ∧ H2 a = some (.frz o (.lst xs)) ∧ RpL r2 H2 s0 xs ∧ Dep d s0 from p1)
      obtain ⟨a2, o2, ys, rfl, g3, g4, _⟩ := (show ∃ a o xs, v2 = .ref a ∧ H2 a = some (.frz o (.lst xs)) ∧ RpL r2 H2 t0 xs ∧ Dep d2 t0 from p2)
      refine ⟨a1, a2, xs, ys, rfl, .inl ⟨.inl (.inr ⟨o1, g1⟩), .inl (.inr ⟨o2, g3⟩), q r2 H2 _ (l1.trans l2) (k1.trans k2) rh2 ⟨fun z hz i r3 H3 l3 k3 => ?_, fun k hz => by cases hz⟩⟩⟩
      cases hz
      have f1 : SqL X.K H3 a1 xs := .inl (.inr ⟨o1, k3.frz _ _ _ g1⟩)
      have f2 : SqL X.K H3 a2 ys := .inl (.inr ⟨o2, k3.frz _ _ _ g3⟩)
      refine at_zip i (g2.monoq l3 k3) (g4.monoq l3 k3) (fun x y hx hy => ⟨xs, ys, x, y, f1, f2, hx, hy⟩) (fun v H' ⟨T, x, y, e1, e2, e3, e4, e5⟩ => ⟨T, x, y, e1, e2, e3, e4 xs f1, e5 ys f2⟩) (fun z => ⟨xs, ys, f1, f2, z⟩)
    | _ => cases e
  | _ => cases e
end
end
end VI
namespace VI
open PySem PySem.Spec PyProof.Rows L2
noncomputable section
/-! ### enumerate over a tuple -/
def IteT (K : PySem.W.Frag) (a : Addr) (xs : List V) : It :=
  ⟨fun i H => SqT K H a xs ∧ ∃ x, xs[i]? = some x, fun i H v H' => ∃ T x, v = .ref T ∧ H T = none ∧ H' = upd H T (.tup [.int ((i : Nat) : Int), x]) ∧ xs[i]? = some x, fun i H => SqT K H a xs ∧ xs.length ≤ i⟩
theorem turn_enumT {P : Program} {w : World} {K : PySem.W.Frag} {elts : List Expr} {kk : Nat} {tpos : Pos} (a e it : Addr) (xs : List V) :
    Turn P w K (.Tuple elts kk tpos) (IteT K a xs) [e, it] e (fun i h => (∃ old, IsEnum h e it ((i : Nat) : Int) old) ∧ h.IsTupleIter it a i ∧ e ≠ it ∧ a ≠ it ∧ a ≠ e ∧ i ≤ xs.length) where
  mem := by simp
  obj := fun i h st b hb => by
    obtain ⟨⟨old, he⟩, ⟨o, ho, hc, hd⟩, _⟩ := st
    rcases (show b = e ∨ b = it by simpa using hb) with rfl | rfl
    · exact ⟨_, he, fun v q => nomatch q⟩
    · exact ⟨o, ho, fun v q => by rw [hd] at q; cases q⟩
  keep := fun i h h' st k => by
    obtain ⟨⟨old, he⟩, hi, hne⟩ := st
    exact ⟨⟨old, k e (by simp) _ he⟩, hi.at fun o q => k it (by simp) o q, hne⟩
  item := by
    intro X hP hw hK hc i pins s σ H E I hf st hg
    subst hP hw hK
    obtain ⟨⟨old, he⟩, hit, hne, ha1, ha2, hle⟩ := st
    obtain ⟨hq, x, hx⟩ := hg
    obtain ⟨its, rv, pt, hz⟩ := I.tuple hq
    have hl := rv.length
    have hi : i < its.toArray.size := by have := (List.getElem?_eq_some_iff.mp hx).1; simp; omega
    have G := GoesN.enumFrom (prog := X.prog) (w := X.w) (A := X.A) (elts := elts) (x1 := kk) (pos := tpos) 0 (Draws.tuple (A := X.A.in1) (I.ok.hd hc) it a ha1 its.toArray) e hne (by simp [hne, Ne.symm ha2]) (by simp)
    refine G.goes i s _ E hi ⟨⟨old, by rw [Int.zero_add]; exact he⟩, hit, pt⟩ fun v h' tk hY st' hk htk => ?_
    obtain ⟨T, t, y, rfl, hT, hy, o, hTo, hTc, n, hTd⟩ := hY
    obtain ⟨u, hu, ru⟩ := rv.get hx
    have ey : y = u := by
      have z : its.toArray[i]? = some y := hy
      have z2 : its[i]? = some y := by simpa using z
      rw [hu] at z2; cases z2; rfl
    subst ey
    have hTn : H T = none := I.hok.fresh hT
    have new : ObjOk X.prog X.w (upd H T (.tup [.int ((i : Nat) : Int), x])) h' T (.tup [.int ((i : Nat) : Int), x]) :=
      ⟨by show 2 ≤ sizeLine; decide, [.int (0 + (i : Int)) t, y], .cons ⟨t, by rw [Int.zero_add]⟩ (.cons ru .nil), ⟨o, hTo, hTc, n, hTd⟩⟩
    have I1 : Inv X pins σ (upd H T (.tup [.int ((i : Nat) : Int), x])) { s with heap := h', toks := tk } := I.turnedNew (ch := [e, it]) (fun b ob hb q => hk b ob (by simpa using hb) q) hf hT new
    obtain ⟨⟨old', he'⟩, hit', pt'⟩ := st'
    refine ⟨.ref T, _, I1, rfl, ⟨T, x, rfl, hTn, rfl, hx⟩, ⟨⟨old', by rw [Int.zero_add] at he'; exact he'⟩, hit', hne, ha1, ha2, (List.getElem?_eq_some_iff.mp hx).1⟩, fun b hb => ?_⟩
    · have hb' : b < s.heap.objs.size := by
        rcases (show b = e ∨ b = it by simpa using hb) with rfl | rfl
        · exact Heap.lt_size he
        · obtain ⟨_, q, _⟩ := hit; exact Heap.lt_size q
      rw [upd_ne (Nat.ne_of_lt (Nat.lt_of_lt_of_le hb' hT))]
      exact (hf b hb).1
  done := by
    intro X hP hw hK hc i pins s σ H E I hf st hg
    subst hP hw hK
    obtain ⟨⟨old, he⟩, hit, hne, ha1, ha2, hle⟩ := st
    obtain ⟨hq, hx⟩ := hg
    obtain ⟨its, rv, pt, hz⟩ := I.tuple hq
    have hl := rv.length
    have en : i = its.toArray.size := by simp; omega
    subst en
    have G := GoesN.enumFrom (prog := X.prog) (w := X.w) (A := X.A) (elts := elts) (x1 := kk) (pos := tpos) 0 (Draws.tuple (A := X.A.in1) (I.ok.hd hc) it a ha1 its.toArray) e hne (by simp [hne, Ne.symm ha2]) (by simp)
    refine G.stops s _ E ⟨⟨old, by rw [Int.zero_add]; exact he⟩, hit, pt⟩ fun h' tk hk htk => ?_
    refine I.turnedL (ch := [e, it]) (fun b ob hb q => hk b ob (by simpa using hb) q) hf
  self := fun A i s Q E st h => let ⟨⟨_, he⟩, _⟩ := st; wpAny_pyIter_enum he h
def itO (t : Addr) : Obj := { cls := .type "tuple_iterator", data := .fields #[.ref t, .int 0 0] }
def enO (j : Addr) : Obj := { cls := .type "enumerate", data := .fields #[.none, .bool false, .ref j, rawInt 0, .none, .none] }
set_option maxHeartbeats 1000000 in
open AutoSeq1 (wpAny_loadPart') in
theorem meets_enumT (t : Addr) (items : Array Value) (n : Nat) (dd : Option Addr) (sl : Array (Option Value)) :
    Meets (Builtin.«enumerate.__new__» ⟨[.type "enumerate", .ref t], []⟩) (fun _ R s => s.heap.get? t = some { cls := .type "tuple", dict := dd, data := .seq items n, slots := sl } ∧
      R (.ok (.ret (.ref (s.heap.push (itO t)).objs.size))) { s with heap := (s.heap.push (itO t)).push (enO s.heap.objs.size) }) :=
  .of_wp fun prog w A R s h => by
    obtain ⟨hp, g, d, tk, os⟩ := s
    obtain ⟨ht, h⟩ := h
    have hsub := sub_enumerate
    have hT : Heap.IsTuple (Shared.heap ⟨hp, g, d, tk, os⟩) t items := ⟨_, ht, rfl, n, rfl⟩
    wp_walk using wpAny_loadPart' ht
    refine wpAny_stack_any fun st => wpAny_pure ?_
    split
    · rename_i c _ _ _ _ _
      cases (c == Value.type "enumerate") <;> (wp_walk using wpAny_loadPart' ht, wpAny_pyIter_tuple hT; exact ⟨_, rfl, h⟩)
    · wp_walk using wpAny_loadPart' ht, wpAny_pyIter_tuple hT
      exact ⟨_, rfl, h⟩
theorem call_enumT {prog : Program} {w : World} {A : Around} {E : Value → Shared → Prop} {s : Shared} {t : Addr} {items : Array Value} {Q : Value → Shared → Prop} (hT : s.heap.IsTuple t items)
    (h : ∀ h', IsEnum h' (s.heap.objs.size + 1) s.heap.objs.size 0 .none → h'.IsTupleIter s.heap.objs.size t 0 → (∀ b o, s.heap.get? b = some o → h'.get? b = some o) → Q (.ref (s.heap.objs.size + 1)) { s with heap := h' }) :
    wpAny (model prog w) A (PySem.call (.type "enumerate") [.ref t]) Q E s := by
  obtain ⟨⟨c, dd, dt, sl⟩, ht, hc, n, hd⟩ := hT
  simp only at hc hd
  subst hc hd
  refine callType_new F.called_enumerate (by decide) (F.typeCall_enumerate_1 _) (F.newCall_enumerate_1 _) (fun obj => F.args_object_init_2 obj _) F.entry_enumerate_new (meets_enumT t items n dd sl) ⟨ht, ?_⟩
  have hz : (s.heap.push (itO t)).objs.size = s.heap.objs.size + 1 := Heap.size_push ..
  have he : IsEnum ((s.heap.push (itO t)).push (enO s.heap.objs.size)) (s.heap.objs.size + 1) s.heap.objs.size 0 .none := by
    have z := Heap.get?_push_size (s.heap.push (itO t)) (o := enO s.heap.objs.size) rfl
    rw [hz] at z; exact z
  show _ ∧ _
  rw [hz]
  exact ⟨⟨_, he, rfl⟩, h _ he ⟨_, Heap.get?_push_of_some _ (Heap.get?_push_size _ rfl), rfl, rfl⟩ fun b o x => Heap.get?_push_of_some _ (Heap.get?_push_of_some _ x)⟩
end
end VI
namespace VI
open PySem PySem.Spec PyProof.Rows L2
noncomputable section
section
variable {C : Ct} {X : Cx} {k : Nat} {p : Prog} {call : Nat → U → VH → VR} {a b e : Expr} {ea eb : VE} {elts : List Expr} {kk : Nat} {tpos pos pp : Pos} {ta : TA}
theorem pi_enumA (hg : Gl X "enumerate") (hm : X.mg "enumerate" = none) (ha : PA X [e] ta) (hs : starEach [e] X.env = [(false, eval e X.env)] := by rfl) :
    PI X (.Tuple elts kk tpos) (.Call (.Name "enumerate" pp) [e] [] pos) (fun σ H R => ta σ H fun vs H1 => ∃ a xs, vs = [.ref a] ∧ ((SqL X.K H1 a xs ∧ R (Ite X.K a) H1) ∨ (SqT X.K H1 a xs ∧ R (IteT X.K a xs) H1))) := by
  refine ⟨fun pins s σ H R I h => ?_⟩
  refine Call_ (ld_blt I hg hm boot_enumerate (PyProof.Rows.callWith_type1 (thn (ha.run pos pins s σ H _ I h) fun us s1 ⟨vs, H1, I1, r1, q1⟩ => ?_) hs rfl))
  obtain ⟨a, xs, rfl, q⟩ := q1
  obtain ⟨u, rfl, ru⟩ := r1.one
  cases ru
  have new : ∀ b, b = s1.heap.objs.size + 1 ∨ b = s1.heap.objs.size → s1.heap.objs.size ≤ b := fun b hb => by rcases hb with rfl | rfl <;> omega
  rcases q with ⟨hq, q⟩ | ⟨hq, q⟩
  · obtain ⟨its, rv, pl, _⟩ := I1.list hq
    refine call_enumerate_list pl.isList fun h' he hit hsz hk => wpAny_pyIter_enum he ?_
    refine ⟨s1.heap.objs.size + 1, [s1.heap.objs.size + 1, s1.heap.objs.size], _, _, H1, rfl, I1.kept (t' := s1.toks) hk, turn_enum a (s1.heap.objs.size + 1) s1.heap.objs.size, ⟨⟨.none, he⟩, hit, Nat.succ_ne_self _⟩, fun b hb => ?_, q⟩
    have hle := new b (by simpa using hb)
    exact I1.fpOk hle (I1.hok.fresh hle)
  · obtain ⟨its, rv, pt, _⟩ := I1.tuple hq
    have hlt : a < s1.heap.objs.size := pt.lt
    refine call_enumT (show s1.heap.IsTuple a its.toArray from pt) fun h' he hit hk => wpAny_pyIter_enum he ?_
    refine ⟨s1.heap.objs.size + 1, [s1.heap.objs.size + 1, s1.heap.objs.size], _, _, H1, rfl, I1.kept (t' := s1.toks) hk, turn_enumT a (s1.heap.objs.size + 1) s1.heap.objs.size xs, ⟨⟨.none, he⟩, hit, Nat.succ_ne_self _, Nat.ne_of_lt hlt, Nat.ne_of_lt (Nat.lt_succ_of_lt hlt), Nat.zero_le _⟩, fun b hb => ?_, q⟩
    have hle := new b (by simpa using hb)
    exact I1.fpOk hle (I1.hok.fresh hle)
theorem at_enum {r : Rf} {H : Hp} {s : U} {xs : List V} {J : It} (i : Nat) (hs : RpL r H s xs) (go : ∀ x, xs[i]? = some x → J.go i H)
    (yl : ∀ v H', J.yld i H v H' → ∃ T x, v = .ref T ∧ H T = none ∧ H' = upd H T (.tup [.int ((i : Nat) : Int), x]) ∧ xs[i]? = some x) (st : xs.length ≤ i → J.stop i H) : At C true J r H (enumS s) i := by
  obtain ⟨s1, s2⟩ := nthU_ok (i := i) hs
  rw [At, show enumS s = enumG s 0 from rfl, nth_enum, Nat.zero_add]
  refine ⟨fun c e => ?_, fun e => ?_⟩
  · cases h1 : nthU s i with
    | none => rw [h1] at e; cases e
    | some a =>
      rw [h1] at e
      cases (show some (mkT (.cons (.int (.ofNat i)) (.cons a .nil))) = some c from e)
      obtain ⟨x, hx, px⟩ := s1 a h1
      refine ⟨go x hx, fun v H' z => ?_⟩
      obtain ⟨T, x', rfl, hT, rfl, hx'⟩ := yl v H' z
      rw [hx] at hx'; cases hx'
      have kp : Kp r H r (upd H T (.tup [.int ((i : Nat) : Int), x])) := Kp.new hT
      exact ⟨kp, fun h rh => rh.more (new_keeps hT), .inr ⟨rfl, _, _, T, [.int ((i : Nat) : Int), x], rfl, rfl, upd_same, ⟨.int ((i : Nat) : Int), [x], rfl, rfl, x, [], rfl, px.mono (Rf.Le.refl r) kp, rfl⟩⟩⟩
  · cases h1 : nthU s i with
    | none => exact st (s2 h1)
    | some a => rw [h1] at e; cases e
theorem i_enum (hg : Gl X "enumerate") (hm : X.mg "enumerate" = none) (ha : SE C X a (ev p call ea)) (hs : starEach [a] X.env = [(false, eval a X.env)] := by rfl) (hs2 : starEach [a] X.env = (false, eval a X.env) :: starEach [] X.env := by rfl) :
    SI C X true (.Tuple elts kk tpos) (.Call (.Name "enumerate" pp) [a] [] pos) (ev p call (.enum ea)) := by
  refine (pi_enumA hg hm (pa_cons (ha .nil) pa_nil hs2) hs).weak fun σ H R ⟨r, h, s, u, h', rh, rs, e, n, q⟩ => ?_
  obtain ⟨x, h1, e1, e⟩ := bind_one e
  refine ⟨r, h, s, x, h1, rh, rs, e1, fun r1 H1 v1 l1 k1 rh1 p1 => ?_⟩
  cases x with
  | tup d s0 =>
    cases (show VR.one (mkL (enumS s0)) h1 = .one u h' from e)
    obtain ⟨a1, o1, xs, rfl, ⟨g1, _⟩, g2⟩ := tup_rd p1
    refine ⟨a1, xs, rfl, .inr ⟨SqT.ofF g1, q r1 H1 _ l1 k1 rh1 ⟨fun z hz i r3 H3 l3 k3 => ?_, fun k hz => by cases hz⟩⟩⟩
    cases hz
    have f1 : SqT X.K H3 a1 xs := SqT.ofF (k3.frz _ _ _ g1)
    exact at_enum i (g2.monoq l3 k3) (fun x hx => ⟨f1, x, hx⟩) (fun v H' z => z) (fun z => ⟨f1, z⟩)
  | vl d s0 =>
    cases (show VR.one (mkL (enumS s0)) h1 = .one u h' from e)
    obtain ⟨a1, o1, xs, rfl, g1, g2, _⟩ := (show ∃ a o xs, v1 = .ref a ∧ H1 a = some (.frz o (.lst xs)) ∧ RpL r1 H1 s0 xs ∧ Dep d s0 from p1)
    refine ⟨a1, xs, rfl, .inl ⟨.inl (.inr ⟨o1, g1⟩), q r1 H1 _ l1 k1 rh1 ⟨fun z hz i r3 H3 l3 k3 => ?_, fun k hz => by cases hz⟩⟩⟩
    cases hz
    have f1 : SqL X.K H3 a1 xs := .inl (.inr ⟨o1, k3.frz _ _ _ g1⟩)
    exact at_enum i (g2.monoq l3 k3) (fun x hx => ⟨xs, x, f1, hx⟩) (fun v H' ⟨T, x, e1, e2, e3, e4⟩ => ⟨T, x, e1, e2, e3, e4 xs f1⟩) (fun z => ⟨xs, f1, z⟩)
  | _ => cases e
end
end
end VI
namespace VI
open PySem PySem.Spec PyProof.Rows L2
noncomputable section
section
variable {C : Ct} {X : Cx} {k : Nat} {p : Prog} {call : Nat → U → VH → VR} {a b e : Expr} {es : List Expr} {ea eb el : VE} {pos pp : Pos} {x : Str}
/-! ### defaults -/
/-- how many values, where it is plain to see -/
def cntE : VE → Option Nat
  | .nil => some 0
  | .cons _ b => (cntE b).map (· + 1)
  | _ => none
theorem cnt_ok : ∀ {el : VE} {c : U} {s : VS} {h h' : VH} {u : U} {m : Nat}, ev p call el c s h = .one u h' → cntE el = some m → u.len = m
  | .nil, c, s, h, h', u, m, e, hm => by cases (show VR.one .nil h = .one u h' from e); cases hm; rfl
  | .cons a b, c, s, h, h', u, m, e, hm => by
    obtain ⟨x, h1, e1, e⟩ := bind_one e
    obtain ⟨y, h2, e2, e⟩ := bind_one e
    cases (show VR.one (.cons x y) h2 = .one u h' from e)
    have hm : (cntE b).map (· + 1) = some m := hm
    cases hb : cntE b with
    | none => rw [hb] at hm; cases hm
    | some j =>
      rw [hb] at hm
      cases hm
      show y.len + 1 = j + 1
      rw [cnt_ok (el := b) e2 hb]
/-- values and the defaults behind them -/
def appE : VE → List U → VE
  | .nil, ds => ds.foldr (fun d r => .cons (.cst d) r) .nil
  | .cons a b, ds => .cons a (appE b ds)
  | a, _ => a
def spD (ds : List U) : U := ds.foldr .cons .nil
theorem ev_cst : ∀ (ds : List U) (c : U) (s : VS) (h : VH), ev p call (ds.foldr (fun d r => .cons (.cst d) r) .nil) c s h = .one (spD ds) h
  | [], c, s, h => rfl
  | d :: ds, c, s, h => by
    show VR.bind (VR.one d h) (fun x h => VR.bind (ev p call (ds.foldr (fun d r => .cons (.cst d) r) .nil) c s h) fun y h => .one (.cons x y) h) = _
    show VR.bind (ev p call (ds.foldr (fun d r => .cons (.cst d) r) .nil) c s h) (fun y h => VR.one (.cons d y) h) = _
    rw [ev_cst ds c s h]; rfl
theorem ev_appE (ds : List U) : ∀ (el : VE) {m : Nat} {c : U} {s : VS} {h h' : VH} {u : U}, cntE el = some m → ev p call (appE el ds) c s h = .one u h' → ∃ x, ev p call el c s h = .one x h' ∧ u = x.app (spD ds)
  | .nil, m, c, s, h, h', u, hm, e => by
    have e : ev p call (ds.foldr (fun d r => .cons (.cst d) r) .nil) c s h = .one u h' := e
    rw [ev_cst] at e
    cases e
    exact ⟨.nil, rfl, rfl⟩
  | .cons a b, m, c, s, h, h', u, hm, e => by
    obtain ⟨x, h1, e1, e⟩ := bind_one (show VR.bind (ev p call a c s h) (fun x h => VR.bind (ev p call (appE b ds) c s h) fun y h => .one (.cons x y) h) = .one u h' from e)
    obtain ⟨y, h2, e2, e⟩ := bind_one e
    cases (show VR.one (.cons x y) h2 = .one u h' from e)
    have hm : (cntE b).map (· + 1) = some m := hm
    cases hb : cntE b with
    | none => rw [hb] at hm; cases hm
    | some j =>
      obtain ⟨z, e3, rfl⟩ := ev_appE ds b hb e2
      refine ⟨.cons x z, ?_, rfl⟩
      have e4 := congrArg (fun q => VR.bind q fun x h => VR.bind (ev p call b c s h) fun y h => .one (.cons x y) h) e1
      refine Eq.trans e4 ?_
      exact congrArg (fun q => VR.bind q fun y h => VR.one (.cons x y) h) e3
/-- a def called with its first arguments, the defaults behind them -/
theorem call_fnD {CX : CXT} {f : Addr} {fd : FuncData} {ps : List Str} {n : Nat} {g : U → VH → VR} {ds : List Value} {dvs : List V} (F : FnOk X.prog X.w X.K X.mg X.base CX k f fd ps (spU C n g)) (hr : Room k X.A) (hb : Binds X.K fd ps ds) (hd : Vals dvs ds) (hx : Passes CX X noX)
    (hl : ∀ s h u h', g s h = .one u h' → s.len = n) : CallR X (.ref f) (fun vs H Q => rC C g (vs ++ dvs) H Q) := fun pins s σ H vs us Q I r q => by
  obtain ⟨r0, h, s0, u, h', rh, hs, e, fo⟩ := q
  exact run_fn F hr hb hd hx I r (E := noX) ⟨hs.length.trans (hl s0 h u h' e), r0, h, s0, u, h', rh, hs, e, fo⟩
theorem r_callD {n m : Nat} {f : Addr} {ds : List U} {dvs : List V} (hc : CallR X (.ref f) (fun vs H Q => rC C (call n) (vs ++ dvs) H Q)) (hm' : cntE el = some m) (hU : ∀ r H, RpL r H (spD ds) dvs) (hg : Gl X x) (hm : X.mg x = some (.ref f)) (hk : PySem.W.keepIn X.K (.ref f) = true) (ha : SL C X (e :: es) (ev p call el)) (hdb : (x == ("__debug__" : Str)) = false := by decide)
    (he : starEach (e :: es) X.env = (false, eval e X.env) :: starEach es X.env := by rfl) (hpl : (backTo pos (starEach es X.env)).any (·.1) = false := by rfl) : SE C X (.Call (.Name x pp) (e :: es) [] pos) (ev p call (.call n (appE el ds))) := fun c => by
  have P : PE X (.Call (.Name x pp) (e :: es) [] pos) (tCB (fun vs H Q => rC C (call n) (vs ++ dvs) H Q) (tSL C (ev p call el c))) := by
    refine ⟨fun pins s σ H Q I h => ?_⟩
    refine wpAny_Call_Name_kw (ld_glob I hg hm ?_ hdb)
    exact PySem.W.callWith_K (h₀ := X.base) I.ok.mod.kin hk (thn ((ha c).run pos pins s σ H _ I h) fun us s1 ⟨vs, H1, I1, r, q⟩ => ⟨I1.kIn, hc pins s1 σ H1 vs us Q I1 r q⟩) he hpl
  refine P.weak fun σ H Q ⟨r, h, s, u, h', rh, rs, e, q⟩ => ?_
  obtain ⟨z, h1, e1, e⟩ := bind_one e
  obtain ⟨y, e2, rfl⟩ := ev_appE ds el hm' e1
  exact ⟨r, h, s, y, h1, rh, rs, e2, fun r1 H1 vs l1 k1 rh1 p1 => ⟨r1, h1, _, u, h', rh1, p1.app (hU r1 H1), e, fun r2 H2 v l2 k2 rh2 p2 => q r2 H2 v (l1.trans l2) (k1.trans k2) rh2 p2⟩⟩
end
end
end VI
namespace VI
open PySem PySem.Spec PyProof.Rows L2
noncomputable section
theorem RS.monoq {r r' : Rf} {H H' : Hp} (l : r.Le r') (k : Kq H H') : ∀ {s : VS} {σ : L2.St}, RS r H s σ → RS r' H' s σ
  | .nil, [], _ => trivial
  | .cons u t, some v :: σ, ⟨h1, h2⟩ => ⟨h1.monoq l k, RS.monoq l k h2⟩
  | .un t, _ :: σ, h => RS.monoq (s := t) (σ := σ) l k h
  | .nil, _ :: _, h => False.elim h
  | .cons _ _, [], h => False.elim h
  | .cons _ _, none :: _, h => False.elim h
  | .un _, [], h => False.elim h
theorem Kq.trans {H H1 H2 : Hp} (a : Kq H H1) (b : Kq H1 H2) : Kq H H2 := ⟨fun x xs h => b.tup x xs (a.tup x xs h), fun x o u h => b.frz x o u (a.frz x o u h)⟩
theorem Kq.refl (H : Hp) : Kq H H := ⟨fun _ _ h => h, fun _ _ _ h => h⟩
theorem wipe_wipe : ∀ (l l2 : List Nat) (σ : L2.St), (∀ i ∈ l, i ∈ l2) → L2.wipe (L2.wipe σ l) l2 = L2.wipe σ l2
  | [], _, _, _ => rfl
  | i :: l, l2, σ, hi => by
    show L2.wipe ((L2.wipe σ l).set i none) l2 = _
    rw [wipe_set_mem (hi i (List.mem_cons_self ..)), wipe_wipe l l2 σ fun j hj => hi j (List.mem_cons_of_mem _ hj)]
section
variable {C : Ct} {X : Cx} {p : Prog} {call : Nat → U → VH → VR} {t : VT} {ec ee : VE}
/-- the last clause's turns, from any acc -/
theorem lc_in {y0 : Bool} {J : It} {r1 r0 : Rf} {H1 H0 : Hp} {s : VS} {σ : L2.St} {cf c0 : U} {hf h0 : VH} {T : Nat → Nat → U → VH → Prop} {m0 : Nat} {vs : List Nat} {D : Addr} {acc0 : List V} {Nx : Hp → Prop}
    (td : Todo C y0 J r0 H0 t (ev p call (.cif ec (.cend ee))) (unsetL s vs) cf hf T) (hv : ∀ i ∈ t.slots, i ∈ vs) (t0 : T m0 0 c0 h0) (hD : H1 D = none) (l0 : r1.Le r0) (k0 : Kp r1 H1 r0 H0) (rh0 : RH C r0 H0 h0) (rs0 : RS r0 H0 s σ) (hlen : cf.len ≤ 100000)
    (d0 : ∀ k, r0.ρ k ≠ some D) (a0 : H0 D = some (.lst acc0)) (hc0 : RpL r0 H0 c0 acc0.reverse)
    (q : ∀ r H acc, r0.Le r → Kp r1 H1 r H → RH C r H hf → (∀ k, r.ρ k ≠ some D) → H D = some (.lst acc) → RpL r H cf acc.reverse → Nx H) :
    ∃ W : Nat → Nat → Hp → Prop, (∃ m, W 0 m H0) ∧ ∀ i m H, W i m H →
      (J.stop i H ∧ Nx H) ∨ (J.go i H ∧ ∃ Nx1 : Hp → Prop, (∀ H', Nx1 H' → ∃ m', m' < m ∧ W (i + 1) m' H') ∧ ∀ x H', J.yld i H x H' → tSG C y0 t x (L2.wipe σ vs) H' fun σ2 H2 => L2.wipe σ2 vs = L2.wipe σ vs ∧ tSTx C (ev p call ec) σ2 H2 fun b H3 =>
        if b = true then tSx C (ev p call ee) σ2 H3 fun y H4 => ∃ acc, H4 D = some (.lst acc) ∧ acc.length < sizeLine ∧ Nx1 (upd H4 D (.lst (acc ++ [y]))) else Nx1 H3) := by
  have lst_t : ∀ {xs : List V} ys, HO.lst xs ≠ .tup ys := fun _ z => by cases z
  have lst_f : ∀ {xs : List V} q u, HO.lst xs ≠ .frz q u := fun _ _ z => by cases z
  refine ⟨fun i m H => ∃ r h c acc, T m i c h ∧ r0.Le r ∧ Kq H0 H ∧ Kp r1 H1 r H ∧ RH C r H h ∧ (∀ k, r.ρ k ≠ some D) ∧ H D = some (.lst acc) ∧ RpL r H c acc.reverse, ⟨m0, r0, h0, c0, acc0, t0, Rf.Le.refl _, Kq.refl _, k0, rh0, d0, a0, hc0⟩, ?_⟩
  rintro i m H ⟨r, h, c, acc, ht, l, kq, k, rh, hd, hH, hc⟩
  rcases td.step m i c h r H ht l kq rh with ⟨st, rfl, rfl⟩ | ⟨a, s', c1, h1', m', hm, ⟨go, yl⟩, hx, hf1, ht'⟩
  · exact .inl ⟨st, q r H acc l k rh hd hH hc⟩
  · have lc1 := td.len _ _ _ _ ht'
    refine .inr ⟨go, fun H' => ∃ m', m' < m ∧ ∃ r h c acc, T m' (i + 1) c h ∧ r0.Le r ∧ Kq H0 H' ∧ Kp r1 H1 r H' ∧ RH C r H' h ∧ (∀ k, r.ρ k ≠ some D) ∧ H' D = some (.lst acc) ∧ RpL r H' c acc.reverse, fun H' z => z, fun x H' y => ?_⟩
    obtain ⟨k1, rh', hp1⟩ := yl x H' y
    have rs' : RS r H' (unsetL s vs) (L2.wipe σ vs) := ((rs0.monoq l kq).mono (Rf.Le.refl _) k1).wipe vs |>.1
    refine ⟨r, h, unsetL s vs, a, s', rh' h rh, rs', hp1, hx, fun σ2 rs2 on => ⟨?_, ?_⟩⟩
    · rw [on vs hv]; exact wipe_wipe vs vs σ fun _ h => h
    · obtain ⟨tv, ht1, e1, e2⟩ := bind_one hf1
      rw [true_eq] at e2
      cases htr : truth tv ht1 with
      | none => rw [htr] at e2; cases e2
      | some b =>
        rw [htr] at e2
        refine ⟨c, r, h, s', tv, ht1, b, rh' h rh, rs2, e1, htr, fun r3 H3 l3 k3 rh3 => ?_⟩
        have kD := k3.ap D _ ((k1.ap D _ hH hd).1) (k1.ap D _ hH hd).2
        have kk : Kp r1 H1 r3 H3 := (k.trans k1).trans k3
        have kk0 : Kq H0 H3 := (kq.trans k1.q).trans k3.q
        have ll : r0.Le r3 := l.trans l3
        have hc3 : RpL r3 H3 c acc.reverse := (hc.mono (Rf.Le.refl _) k1).mono l3 k3
        cases b with
        | false =>
          show (if false = true then _ else _)
          rw [if_neg (by decide)]
          cases (show VR.one c ht1 = .one c1 h1' from e2)
          exact ⟨m', hm, r3, _, c, acc, ht', ll, kk0, kk, rh3, kD.2, kD.1, hc3⟩
        | true =>
          show (if true = true then _ else _)
          rw [if_pos rfl]
          obtain ⟨y, h4, e3, e2⟩ := bind_one (show VR.bind (ev p call ee c s' ht1) (fun x h => .one (.cons x c) h) = .one c1 h1' from e2)
          cases (show VR.one (.cons y c) h4 = .one c1 h1' from e2)
          refine ⟨c, r3, ht1, s', y, _, rh3, rs2.mono l3 k3, e3, fun r4 H4 v l4 k4 rh4 p4 => ?_⟩
          obtain ⟨d1, d2⟩ := k4.ap D _ kD.1 kD.2
          have hlen' : acc.length < sizeLine := by
            have z := hc.length
            rw [List.length_reverse] at z
            have z2 : (U.cons y c).len = c.len + 1 := rfl
            rw [sizeLine_eq]
            omega
          obtain ⟨o1, o2⟩ := rh4.other (o := .lst (acc ++ [v])) d2 d1 lst_t lst_f
          refine ⟨acc, d1, hlen', m', hm, r4, _, .cons y c, acc ++ [v], ht', ll.trans l4, (kk0.trans k4.q).trans o2, (kk.trans k4).other hD, o1, d2, upd_same, ?_⟩
          rw [List.reverse_append]
          exact ⟨v, acc.reverse, rfl, p4.monoq (Rf.Le.refl _) o2, (hc3.mono l4 k4).monoq (Rf.Le.refl _) o2⟩
end
end
end VI
namespace VI
open PySem PySem.Spec PyProof.Rows L2
noncomputable section
section
variable {C : Ct} {X : Cx} {p : Prog} {call : Nat → U → VH → VR} {t t1 : VT} {ea ea1 ec ec1 ee : VE} {elt it tg it1 tg1 : Expr} {ifs ifs1 : List Expr} {scope : Scope} {own : List (Str × Nat)} {pos : Pos}
theorem grows_for {r : VE} (g : Grows (ev p call r)) : Grows (ev p call (.cfor t ea r)) := fun c s h u h' z => by
  obtain ⟨x, h1, _, z⟩ := bind_one (show VR.bind (ev p call ea .nil s h) (fun x h => x.walk h (.bad 122) (fun q => cforV t (fun c σ h => ev p call r c σ h) q c s h) (fun k => cforL t (fun c σ h => ev p call r c σ h) k 100000 0 c s h)) = .one u h' from z)
  rw [walk_eq] at z
  cases hw : walkOf x h1 with
  | none => rw [hw] at z; cases z
  | some y =>
    rw [hw] at z
    cases y with
    | inl s0 => exact grows_forV g s0 c s h1 u h' z
    | inr k0 => exact grows_forL g 100000 0 c s h1 u h' z
theorem grows_wips {r : VE} (g : Grows (ev p call r)) (l : List Nat) : Grows (ev p call (wips l r)) := fun c s h u h' z => by
  rw [ev_wips] at z
  exact g c _ h u h' z
theorem lc2_turns {y0 y1 : Bool} {J : It} {r1 : Rf} {H1 : Hp} {s : VS} {σ : L2.St} {cf : U} {hf h1 : VH} {T : Nat → Nat → U → VH → Prop} {m0 : Nat} {Q : VK} {vs vs1 : List Nat}
    (td : Todo C y0 J r1 H1 t (ev p call (.cif ec (wips vs1 (.cfor t1 ea1 (.cif ec1 (.cend ee)))))) (unsetL s vs) cf hf T) (hv : ∀ i ∈ t.slots, i ∈ vs) (hv1 : ∀ i ∈ t1.slots, i ∈ vs1) (t0 : T m0 0 .nil h1) (rh1 : RH C r1 H1 h1) (rs1 : RS r1 H1 s σ) (hlen : cf.len ≤ 100000)
    (q : ∀ r H D acc, r1.Le r → Kp r1 H1 r H → RH C r H hf → (∀ k, r.ρ k ≠ some D) → H1 D = none → H D = some (.lst acc) → RpL r H cf acc.reverse → Q (.ref D) H) :
    ∀ D, H1 D = none → ∃ W : Nat → Nat → Hp → Prop, (∃ m, W 0 m (upd H1 D (.lst []))) ∧ ∀ i m H, W i m H →
      (J.stop i H ∧ Q (.ref D) H) ∨ (J.go i H ∧ ∃ Nx : Hp → Prop, (∀ H', Nx H' → ∃ m', m' < m ∧ W (i + 1) m' H') ∧ ∀ x H', J.yld i H x H' → tSG C y0 t x (L2.wipe σ vs) H' fun σ2 H2 => L2.wipe σ2 vs = L2.wipe σ vs ∧ tSTx C (ev p call ec) σ2 H2 fun b H3 =>
        if b = true then tSI C y1 (ev p call ea1 .nil) σ2 H3 fun J1 H4 => ∃ W1 : Nat → Nat → Hp → Prop, (∃ m, W1 0 m H4) ∧ ∀ j k H, W1 j k H →
          (J1.stop j H ∧ Nx H) ∨ (J1.go j H ∧ ∃ Nx1 : Hp → Prop, (∀ H', Nx1 H' → ∃ k', k' < k ∧ W1 (j + 1) k' H') ∧ ∀ x H', J1.yld j H x H' → tSG C y1 t1 x (L2.wipe σ2 vs1) H' fun σ3 H5 => L2.wipe σ3 vs1 = L2.wipe σ2 vs1 ∧ tSTx C (ev p call ec1) σ3 H5 fun b H6 =>
            if b = true then tSx C (ev p call ee) σ3 H6 fun y H7 => ∃ acc, H7 D = some (.lst acc) ∧ acc.length < sizeLine ∧ Nx1 (upd H7 D (.lst (acc ++ [y]))) else Nx1 H6)
        else Nx H3) := by
  intro D hD
  have d0 : ∀ k, r1.ρ k ≠ some D := fun k e => by obtain ⟨o, z⟩ := rh1.live k D e; rw [hD] at z; cases z
  refine ⟨fun i m H => ∃ r h c acc, T m i c h ∧ r1.Le r ∧ Kp r1 H1 r H ∧ RH C r H h ∧ (∀ k, r.ρ k ≠ some D) ∧ H D = some (.lst acc) ∧ RpL r H c acc.reverse, ⟨m0, r1, h1, .nil, [], t0, Rf.Le.refl _, Kp.new hD, rh1.more (new_keeps hD), d0, upd_same, rfl⟩, ?_⟩
  rintro i m H ⟨r, h, c, acc, ht, l, k, rh, hd, hH, hc⟩
  rcases td.step m i c h r H ht l k.q rh with ⟨st, rfl, rfl⟩ | ⟨a, s', c1, h1', m', hm, ⟨go, yl⟩, hx, hf1, ht'⟩
  · exact .inl ⟨st, q r H D acc l k rh hd hD hH hc⟩
  · have lc1 := td.len _ _ _ _ ht'
    refine .inr ⟨go, fun H' => ∃ m', m' < m ∧ ∃ r h c acc, T m' (i + 1) c h ∧ r1.Le r ∧ Kp r1 H1 r H' ∧ RH C r H' h ∧ (∀ k, r.ρ k ≠ some D) ∧ H' D = some (.lst acc) ∧ RpL r H' c acc.reverse, fun H' z => z, fun x H' y => ?_⟩
    obtain ⟨k1, rh', hp1⟩ := yl x H' y
    have rs' : RS r H' (unsetL s vs) (L2.wipe σ vs) := ((rs1.mono l k).mono (Rf.Le.refl _) k1).wipe vs |>.1
    refine ⟨r, h, unsetL s vs, a, s', rh' h rh, rs', hp1, hx, fun σ2 rs2 on => ⟨?_, ?_⟩⟩
    · rw [on vs hv]; exact wipe_wipe vs vs σ fun _ h => h
    · obtain ⟨tv, ht1, e1, e2⟩ := bind_one hf1
      rw [true_eq] at e2
      cases htr : truth tv ht1 with
      | none => rw [htr] at e2; cases e2
      | some b =>
        rw [htr] at e2
        refine ⟨c, r, h, s', tv, ht1, b, rh' h rh, rs2, e1, htr, fun r3 H3 l3 k3 rh3 => ?_⟩
        have kD := k3.ap D _ ((k1.ap D _ hH hd).1) (k1.ap D _ hH hd).2
        have kk : Kp r1 H1 r3 H3 := (k.trans k1).trans k3
        have ll : r1.Le r3 := l.trans l3
        have hc3 : RpL r3 H3 c acc.reverse := (hc.mono (Rf.Le.refl _) k1).mono l3 k3
        cases b with
        | false =>
          show (if false = true then _ else _)
          rw [if_neg (by decide)]
          cases (show VR.one c ht1 = .one c1 h1' from e2)
          exact ⟨m', hm, r3, _, c, acc, ht', ll, kk, rh3, kD.2, kD.1, hc3⟩
        | true =>
          show (if true = true then _ else _)
          rw [if_pos rfl]
          have e2 : ev p call (wips vs1 (.cfor t1 ea1 (.cif ec1 (.cend ee)))) c s' ht1 = .one c1 h1' := e2
          rw [ev_wips] at e2
          obtain ⟨u1, hh1, e3, e4⟩ := bind_one (show VR.bind (ev p call ea1 .nil (unsetL s' vs1) ht1) (fun x h => x.walk h (.bad 122) (fun z => cforV t1 (fun c σ h => ev p call (.cif ec1 (.cend ee)) c σ h) z c (unsetL s' vs1) h) (fun k => cforL t1 (fun c σ h => ev p call (.cif ec1 (.cend ee)) c σ h) k 100000 0 c (unsetL s' vs1) h)) = .one c1 h1' from e2)
          rw [walk_eq] at e4
          have n : walkOf u1 hh1 ≠ none := fun z => by rw [z] at e4; cases e4
          refine ⟨r3, ht1, unsetL s' vs1, u1, hh1, rh3, ((rs2.mono l3 k3).wipe _).2, e3, n, fun r4 H4 J1 l4 k4 rh4 wk => ?_⟩
          obtain ⟨d1, d2⟩ := k4.ap D _ kD.1 kD.2
          have fin : ∀ r H acc, r4.Le r → Kp r1 H1 r H → RH C r H h1' → (∀ k, r.ρ k ≠ some D) → H D = some (.lst acc) → RpL r H c1 acc.reverse → ∃ m', m' < m ∧ ∃ r h c acc, T m' (i + 1) c h ∧ r1.Le r ∧ Kp r1 H1 r H ∧ RH C r H h ∧ (∀ k, r.ρ k ≠ some D) ∧ H D = some (.lst acc) ∧ RpL r H c acc.reverse :=
            fun r H acc l5 k5 rh5 d5 a5 c5 => ⟨m', hm, r, h1', c1, acc, ht', (ll.trans l4).trans l5, k5, rh5, d5, a5, c5⟩
          have rs4 : RS r4 H4 s' σ2 := (rs2.mono l3 k3).mono l4 k4
          have hl : c1.len ≤ 100000 := by omega
          cases hw : walkOf u1 hh1 with
          | none => exact absurd hw n
          | some y =>
            rw [hw] at e4
            cases y with
            | inl s0 => exact lc_in (todoV (grows_if (grows_end _)) (wk.1 s0 hw)) hv1 ⟨s0, Left.zero s0, rfl, e4⟩ hD (ll.trans l4) (kk.trans k4) rh4 rs4 hl d2 d1 (hc3.mono l4 k4) fin
            | inr q0 => exact lc_in (todoL (grows_if (grows_end _)) (wk.2 q0 hw)) hv1 e4 hD (ll.trans l4) (kk.trans k4) rh4 rs4 hl d2 d1 (hc3.mono l4 k4) fin
theorem pi_x {e tg : Expr} {y : Bool} {f : Sem} (h : SI C X y tg e f) : PI X tg e (tSI C y (f .nil)) := h
/-- two clauses -/
theorem r_lc2 {y0 y1 : Bool} {vs1 : List Nat} (hc : X.calm = true) (hN : X.N.Nodup) (hi : SI C X y0 tg it (ev p call ea)) (ok : BlkOk X.N X.env.scope scope own) (hv : ∀ i ∈ t.slots, i ∈ own.map (·.2)) (hv1 : ∀ i ∈ t1.slots, i ∈ vs1) (hvo : ∀ i ∈ vs1, i ∈ own.map (·.2))
    (hg : ∀ (s : Shared) (H : Hp) (Cc : Addr) (cl : List (Str × Addr)) (fp : List Addr), SG C (X.blk s H scope (compEnvC scope cl Cc X.env) fp) y0 tg t)
    (ht : ∀ (s : Shared) (H : Hp) (Cc : Addr) (cl : List (Str × Addr)) (fp : List Addr), STs C (X.blk s H scope (compEnvC scope cl Cc X.env) fp) ifs (ev p call ec))
    (hi1 : ∀ (s : Shared) (H : Hp) (Cc : Addr) (cl : List (Str × Addr)) (fp : List Addr), SI C (X.blk s H scope (compEnvC scope cl Cc X.env) fp) y1 tg1 it1 (ev p call ea1))
    (hg1 : ∀ (s : Shared) (H : Hp) (Cc : Addr) (cl : List (Str × Addr)) (fp : List Addr), SG C (X.blk s H scope (compEnvC scope cl Cc X.env) fp) y1 tg1 t1)
    (ht1 : ∀ (s : Shared) (H : Hp) (Cc : Addr) (cl : List (Str × Addr)) (fp : List Addr), STs C (X.blk s H scope (compEnvC scope cl Cc X.env) fp) ifs1 (ev p call ec1))
    (he : ∀ (s : Shared) (H : Hp) (Cc : Addr) (cl : List (Str × Addr)) (fp : List Addr), SE C (X.blk s H scope (compEnvC scope cl Cc X.env) fp) elt (ev p call ee))
    (hs : ∀ x, foldedSetIterable it X.env x = pure x := by intro _; rfl) (hs1 : ∀ env x, foldedSetIterable it1 env x = pure x := by intro _ _; rfl) :
    SE C X (.ListComp elt [⟨tg, it, ifs, 0⟩, ⟨tg1, it1, ifs1, 0⟩] scope pos) (ev p call (.comp (wips (own.map (·.2)) (.cfor t ea (.cif ec (wips vs1 (.cfor t1 ea1 (.cif ec1 (.cend ee))))))))) := fun cc => by
  refine (PE.frz (pe_lc2 hc hN hi ok hvo (fun s H Cc cl fp => hg s H Cc cl fp) (fun s H Cc cl fp => pts_x (ht s H Cc cl fp)) (fun s H Cc cl fp => hi1 s H Cc cl fp) (fun s H Cc cl fp => hg1 s H Cc cl fp) (fun s H Cc cl fp => pts_x (ht1 s H Cc cl fp)) (fun s H Cc cl fp => pe_x (he s H Cc cl fp)) hs hs1)).weak fun σ H Q ⟨r, h, s, u, h', rh, rs, e, q⟩ => ?_
  obtain ⟨cf, hf, e1, e⟩ := bind_one e
  obtain ⟨e, hlen⟩ := few_one e (by intro z; cases z)
  cases e
  have e1 : ev p call (wips (own.map (·.2)) (.cfor t ea (.cif ec (wips vs1 (.cfor t1 ea1 (.cif ec1 (.cend ee))))))) .nil s h = .one cf h' := e1
  rw [ev_wips] at e1
  obtain ⟨u1, h1, e2, e3⟩ := bind_one (show VR.bind (ev p call ea .nil (unsetL s (own.map (·.2))) h) (fun x h => x.walk h (.bad 122) (fun z => cforV t (fun c σ h => ev p call (.cif ec (wips vs1 (.cfor t1 ea1 (.cif ec1 (.cend ee))))) c σ h) z .nil (unsetL s (own.map (·.2))) h) (fun k => cforL t (fun c σ h => ev p call (.cif ec (wips vs1 (.cfor t1 ea1 (.cif ec1 (.cend ee))))) c σ h) k 100000 0 .nil (unsetL s (own.map (·.2))) h)) = .one cf h' from e1)
  rw [walk_eq] at e3
  have n : walkOf u1 h1 ≠ none := fun z => by rw [z] at e3; cases e3
  have hl2 : cf.len ≤ 100000 := hlen
  have fin : ∀ r1 H1, r.Le r1 → Kp r H r1 H1 → ∀ r2 H2 D acc, r1.Le r2 → Kp r1 H1 r2 H2 → RH C r2 H2 h' → (∀ k, r2.ρ k ≠ some D) → H1 D = none → H2 D = some (.lst acc) → RpL r2 H2 cf acc.reverse → ∃ a xs, V.ref D = .ref a ∧ H2 a = some (.lst xs) ∧ ∀ o, Q (.ref D) (upd H2 a (.frz o (.lst xs))) := by
    intro r1 H1 l1 k1 r2 H2 D acc l2 k2 rh2 hd h1D h2D hc2
    refine ⟨D, acc, rfl, h2D, fun o => ?_⟩
    obtain ⟨rh3, kq⟩ := rh2.other (o := .frz o (.lst acc)) hd h2D (fun _ z => by cases z) (fun _ _ z => by cases z)
    exact q r2 _ (.ref D) (l1.trans l2) (k1.trans (k2.other h1D)) rh3 (rp_mkL ((rev_back hc2).monoq (Rf.Le.refl _) kq) upd_same)
  refine ⟨r, h, unsetL s (own.map (·.2)), u1, h1, rh, (rs.wipe _).2, e2, n, fun r1 H1 J l1 k1 rh1 wk => ?_⟩
  have rs1 := rs.mono l1 k1
  have gr : Grows (ev p call (.cif ec (wips vs1 (.cfor t1 ea1 (.cif ec1 (.cend ee)))))) := grows_if (grows_wips (grows_for (grows_if (grows_end _))) _)
  cases hw : walkOf u1 h1 with
  | none => exact absurd hw n
  | some y =>
    rw [hw] at e3
    cases y with
    | inl s0 => exact lc2_turns (Q := fun v H1 => ∃ a xs, v = .ref a ∧ H1 a = some (.lst xs) ∧ ∀ o, Q v (upd H1 a (.frz o (.lst xs)))) (todoV gr (wk.1 s0 hw)) hv hv1 ⟨s0, Left.zero s0, rfl, e3⟩ rh1 rs1 hl2 (fin r1 H1 l1 k1)
    | inr k0 => exact lc2_turns (Q := fun v H1 => ∃ a xs, v = .ref a ∧ H1 a = some (.lst xs) ∧ ∀ o, Q v (upd H1 a (.frz o (.lst xs)))) (todoL gr (wk.2 k0 hw)) hv hv1 e3 rh1 rs1 hl2 (fin r1 H1 l1 k1)
end
end
end VI
namespace VI
open PySem PySem.Spec PyProof.Rows L2
noncomputable section
theorem smallI_ok {i : Int} (h : smallI i = true) : -(1000001 : Int) ≤ i ∧ i ≤ 1000000 := by
  cases i with
  | ofNat n => have := Nat.ble_eq.mp (show Nat.ble n 1000000 = true from h); constructor <;> (simp only [Int.ofNat_eq_natCast]; omega)
  | negSucc n => have := Nat.ble_eq.mp (show Nat.ble n 1000000 = true from h); constructor <;> (rw [Int.negSucc_eq]; omega)
theorem nth_rng : ∀ (n : Nat) (i : Int) (k : Nat), nthU (rngS n i) k = if k < n then some (.int (i + k)) else none
  | 0, i, k => by rw [if_neg (Nat.not_lt_zero _)]; rfl
  | n + 1, i, 0 => by
    rw [if_pos (Nat.succ_pos _)]
    show some (U.int i) = some (.int (i + ((0 : Nat) : Int)))
    rw [show i + ((0 : Nat) : Int) = i by simp]
  | n + 1, i, k + 1 => by
    show nthU (rngS n (i + 1)) k = _
    rw [nth_rng n (i + 1) k]
    have e : i + 1 + (k : Int) = i + ((k + 1 : Nat) : Int) := by push_cast; omega
    rw [e]
    by_cases h : k < n
    · rw [if_pos h, if_pos (by omega)]
    · rw [if_neg h, if_neg (by omega)]
section
variable {C : Ct} {X : Cx} {p : Prog} {call : Nat → U → VH → VR} {a b tg : Expr} {ea eb : VE} {pos pp : Pos}
theorem at_rng {y : Bool} {r : Rf} {H : Hp} (lo : Int) (n i : Nat) : At C y (Itr lo n) r H (rngS n lo) i := by
  rw [At, nth_rng]
  by_cases h : i < n
  · rw [if_pos h]
    exact ⟨(fun c e => by cases e; exact ⟨h, fun x H' ⟨e1, e2⟩ => by subst e1 e2; exact ⟨Kp.refl _, fun _ z => z, .inl rfl⟩⟩), (fun e => by cases e)⟩
  · rw [if_neg h]
    exact ⟨(fun c e => by cases e), fun _ => Nat.le_of_not_lt h⟩
theorem i_rng {y : Bool} (hg : Gl X "range") (hm : X.mg "range" = none) (ha : SE C X a (ev p call ea)) (hb : SE C X b (ev p call eb)) (hs : starEach [a, b] X.env = [(false, eval a X.env), (false, eval b X.env)] := by rfl) (hs2 : starEach [b] X.env = [(false, eval b X.env)] := by rfl)
    (hs3 : starEach [a, b] X.env = (false, eval a X.env) :: starEach [b] X.env := by rfl) (hs4 : starEach [b] X.env = (false, eval b X.env) :: starEach [] X.env := by rfl) : SI C X y tg (.Call (.Name "range" pp) [a, b] [] pos) (ev p call (.rng ea eb)) := by
  refine (pi_range2 hg hm (pa_cons (ha .nil) (pa_cons (hb .nil) pa_nil hs4) hs3) hs hs2).weak fun σ H R ⟨r, h, s, u, h', rh, rs, e, n, q⟩ => ?_
  obtain ⟨x, h1, e1, e⟩ := bind_one e
  obtain ⟨z, h2, e2, e⟩ := bind_one e
  obtain ⟨i, rfl, e⟩ := caseInt_one (u := x) e
  obtain ⟨j, rfl, e⟩ := caseInt_one (u := z) e
  have e : (Bool.rec (VR.bad 113) (Bool.rec (VR.bad 113) (VR.one (mkL (rngS (Int.sub j i).toNat i)) h2) (smallI j)) (smallI i) : VR) = .one u h' := e
  cases hi : smallI i with
  | false => rw [hi] at e; cases e
  | true =>
    cases hj : smallI j with
    | false => rw [hi, hj] at e; cases e
    | true =>
      rw [hi, hj] at e
      cases (show VR.one (mkL (rngS (Int.sub j i).toNat i)) h2 = .one u h' from e)
      have b1 := smallI_ok hi
      have b2 := smallI_ok hj
      refine ⟨r, h, s, .int i, h1, rh, rs, e1, fun r1 H1 v1 l1 k1 rh1 p1 => ⟨r1, h1, s, .int j, _, rh1, rs.mono l1 k1, e2, fun r2 H2 v2 l2 k2 rh2 p2 => ?_⟩⟩
      cases (show v1 = .int i from p1)
      cases (show v2 = .int j from p2)
      refine ⟨i, j, rfl, ⟨by omega, by omega, by omega, by omega⟩, q r2 H2 _ (l1.trans l2) (k1.trans k2) rh2 ⟨fun z hz k r3 H3 l3 k3 => ?_, fun k hz => by cases hz⟩⟩
      cases hz
      exact at_rng i _ k
end
end
end VI
namespace VI
open PySem PySem.Spec PyProof.Rows L2
noncomputable section
/-! ### dict(d) -/
theorem dictH_push {P : Program} {w : World} {h : Heap} {a : Addr} {xs : List NEv} (d : h.DictOfH (nestedKind P w) a xs) (o : Obj) : (h.push o).DictOfH (nestedKind P w) a xs := by
  obtain ⟨q, es, ep, h1, h2, h3, h4, h5, h6⟩ := d
  exact ⟨q, es, ep, Heap.get?_push_of_some _ h1, h2, h3, h4, fun x hx => nestedKind_stays.stays (fun b o _ _ e _ => Heap.get?_push_of_some _ e) (h5 x hx), h6⟩
theorem nodup_one {α : Type} : ∀ l : List α, l.length ≤ 1 → l.Nodup
  | [], _ => List.nodup_nil
  | [x], _ => by simp
  | _ :: _ :: _, h => absurd h (by simp)
theorem dict_one_key {P : Program} {w : World} {A : Around} {E : Value → Shared → Prop} {s : Shared} {a : Addr} {xs : List NEv} {Q : Value → Shared → Prop} (hu : A.units + 12 < cLine) (hm : (a == sysModules) = false) (d : s.heap.DictOfH (nestedKind P w) a xs) (h1 : xs.length ≤ 1)
    (h : ∀ h', h'.DictOfH (nestedKind P w) s.heap.objs.size xs → Heap.SameBut s.heap.objs.size (s.heap.push { cls := .type "dict", data := .dict #[] }) h' → Q (.ref s.heap.objs.size) { s with heap := h' }) : wpAny (model P w) A (PySem.call (.type "dict") [.ref a]) Q E s := by
  have new : Heap.DictOfH (nestedKind P w) (s.heap.push { cls := .type "dict", data := .dict #[] }) s.heap.objs.size [] := Heap.DictOfH.new s.heap
  have old : Heap.DictOfH (nestedKind P w) (s.heap.push { cls := .type "dict", data := .dict #[] }) a xs := dictH_push d _
  have ne : s.heap.objs.size ≠ a := by obtain ⟨_, _, _, e, _⟩ := d; exact fun z => absurd (Heap.lt_size e) (by rw [← z]; exact Nat.lt_irrefl _)
  have apart : ([] : List NEv) ≠ [] ∨ ((∀ x ∈ xs, ({ s with heap := (s.heap.push { cls := .type "dict", data := .dict #[] }) } : Shared).TypeIs (.ref x.2.1) "tuple") ∧ (xs.map fun x => (nestedKind P w).hash x.1).Nodup) := by
    refine .inr ⟨fun x hx => ?_, ?_⟩
    · obtain ⟨_, _, _, _, _, _, _, q, _⟩ := old
      exact nestedKind_stays.tuple (s := { s with heap := (s.heap.push { cls := .type "dict", data := .dict #[] }) }) (q x hx)
    · exact nodup_one _ (by rw [List.length_map]; exact h1)
  refine callType_codes (Q₁ := fun ob s₁ => ob = .ref s.heap.objs.size ∧ s₁ = { s with heap := (s.heap.push { cls := .type "dict", data := .dict #[] }) }) F.kt_called_dict (F.kt_typeCall_dict_1 _) F.entry_dict_init (kt_code_dict_new _ ⟨rfl, rfl⟩) ?_
  rintro ob s₁ ⟨rfl, rfl⟩
  refine ⟨new.typeIs, F.args_dict_init_2 _ _, ?_⟩
  show wpAny _ _ (Builtin.Dict.selfAndRest _ _ >>= _) _ _ _
  refine wpAny_bind ?_
  show wpAny _ _ (Builtin.Dict.notOrdered _ _ >>= _) _ _ _
  refine wpAny_bind (wpAny_notOrdered_dict new.typeIs (wpAny_pure ?_))
  show wpAny _ _ (Builtin.Dict.updateFrom "dict.__init__" s.heap.objs.size (.ref a) [] .none) _ _ _
  unfold Builtin.Dict.updateFrom
  refine wpAny_bind (wpAny_typeOf old.typeIs ?_)
  rw [if_neg (by decide)]
  refine wpAny_bind ?_
  show wpAny _ _ (Builtin.Dict.readDirectly _ >>= _) _ _ _
  refine wpAny_bind ?_
  show wpAny _ _ (isInstance _ _ >>= _) _ _ _
  refine wpAny_bind (wpAny_isInstance old.typeIs isSubtype_dict_dict ?_)
  simp only [Bool.not_true, Bool.false_eq_true, if_false]
  refine wpAny_bind (wpAny_specialOf old.typeIs F.slot_dict_iter.lookup (wpAny_pure ?_))
  simp only [beq_self_eq_true, if_true]
  refine wpAny_bind (wpAny_pure ?_)
  refine wpAny_mergeDict_heap (hsz := by rw [sizeLine_eq]; show 0 + _ ≤ _; omega) (by show A.units + 1 + 1 + 8 < cLine; omega) ne hm new old apart fun h' d' _ sb => ?_
  rw [storedAllH_nil_of_nodup _ d.nodup] at d'
  exact wpAny_bind (wpAny_pure (wpAny_pure ⟨rfl, h h' d' sb⟩))
section
variable {C : Ct} {X : Cx} {k : Nat} {p : Prog} {call : Nat → U → VH → VR} {cv : U → U → VH → VR} {pos : Pos}
/-- a new dict that changes -/
theorem Fo.newD {r : Rf} {H : Hp} {h : VH} {s : U} {ob : HO} {Q : VK} {l : Addr} (q : Fo C r H (.ref h.nxt) (h.add (.dct s)) Q) (rh : RH C r H h) (hs : ∀ r' H', r.Le r' → Kq H H' → H' l = some ob → RO C r' H' l (.dct s)) (hl : H l = none) : Q (.ref l) (upd H l ob) :=
  q (r.put h.nxt l) _ _ (rh.le_put l) (rh.kp_put hl) (rh.add hl (hs _ _ (rh.le_put l) (rh.kp_put (q := ob) hl).q upd_same)) ⟨l, rfl, r.put_same _ _⟩
theorem dcp_one {r : Rf} {H : Hp} {s : U} {kvs : List NE} (h : dcpOk s = true) (hne : kvs ≠ []) (hn : nKs s = some (kvs.map (·.1))) (hs : RpL r H s (flatN kvs)) : kvs.length ≤ 1 := by
  cases kvs with
  | nil => exact absurd rfl hne
  | cons p l =>
    obtain ⟨x, q, t, rfl, h1, h2, h3⟩ := rpl_two hs
    cases l with
    | nil => exact Nat.le_refl _
    | cons p2 l2 =>
      obtain ⟨x2, q2, t2, rfl, _⟩ := rpl_two h3
      have z1 : kkind x = 1 := nat_beq_iff.mp h
      rcases kk_cases x with z | ⟨z, ⟨i, rfl⟩ | ⟨n, rfl⟩⟩ | ⟨z, _⟩
      · omega
      · cases (show V.ref _ = .int i from h1)
      · obtain ⟨_, z, _⟩ := (show ∃ x, V.ref _ = .str x ∧ StrIs n x from h1); cases z
      · omega
theorem b_dict (xc : XC C X k) : CallR X (.type "dict") (rC C (bcU cv 8)) := by
  intro pins s σ H vs us Q I rv ⟨r, h, s0, u, h', rh, hs, e, q⟩
  obtain ⟨a, v, e, rfl, hv⟩ := arg1_one hs e
  obtain ⟨t, hd, e⟩ := dict_one (show a.dict h (VR.bad 47) (fun s => Bool.rec (.bad 47) (newO (.dct s) h) (dcpOk s)) = .one u h' from e)
  cases ok : dcpOk t with
  | false => rw [ok] at e; cases e
  | true =>
    rw [ok] at e
    have e : newO (.dct t) h = .one u h' := e
    rw [newO_eq] at e
    cases e
    obtain ⟨b, rfl, dr⟩ := drep_of rh hv hd
    rcases dr with ⟨kvs, hH, nd, hs⟩ | ⟨kvs, hH, ⟨hne, hns⟩, hs⟩
    · exact call_dictD pins s σ H _ us Q I rv ⟨b, kvs, rfl, hH, fun l hl => q.newD rh (fun r' H' l k e => .inl ⟨kvs, e, nd, hs.monoq l k⟩) hl⟩
    · obtain ⟨ub, rfl, rb⟩ := rv.one
      cases rb
      have hw := rh.w.trans xc.w.symm
      rw [hw] at hH
      obtain ⟨f, xs, rel, dd⟩ := dN_of (P := X.prog) I.hok hH hns hs
      have h1 := dcp_one ok hne hns hs
      refine dict_one_key (by have := xc.room.un; omega) f.2.1 dd (by rw [← Paired.length rel]; exact h1) fun h1 d1 sb => ?_
      have hm : (s.heap.objs.size == sysModules) = false := beq_eq_false_iff_ne.mpr (Nat.ne_of_gt I.big)
      refine ⟨.ref s.heap.objs.size, upd H s.heap.objs.size (dN X.w s.heap.objs.size kvs), I.laid (t' := s.toks) (fun b u e => (sb.2 b (Nat.ne_of_lt (Heap.lt_size e))).trans (Heap.get?_push_of_some _ e)) (Nat.le_refl _) (dN_ok (P := X.prog) ⟨f.1, hm, f.2.2⟩ rel d1), rfl, ?_⟩
      exact q.newD rh (fun r' H' l k e => .inr ⟨kvs, by rw [l.w, hw]; exact e, ⟨hne, hns⟩, hs.monoq l k⟩) I.fresh
end
end
end VI
namespace VI
open PySem PySem.Spec PyProof.Rows L2
noncomputable section
/-- a new thing, frozen at once -/
theorem _root_.L2.PE.icy {X : Cx} {e : Expr} {t : TE} (h : PE X e t) : PE X e (fun σ H Q => t σ H fun v H1 => ∃ a q, v = .ref a ∧ H1 a = some q ∧ Icy q ∧ ∀ o, Q v (upd H1 a (.frz o q))) := by
  refine ⟨fun pins s σ H Q I q => ?_⟩
  refine thn (h.run pins s σ H _ I q) fun u s1 ⟨v, H1, I1, r, a, x, e, ha, ic, q1⟩ => ?_
  obtain ⟨o, I2⟩ := I1.frz ha ic
  exact ⟨v, _, I2, r, q1 o⟩
section
variable {C : Ct} {X : Cx} {k : Nat} {p : Prog} {call : Nat → U → VH → VR} {kx vx tg it : Expr} {ifs : List Expr} {scope : Scope} {own : List (Str × Nat)} {pos : Pos} {t : VT} {ea ec ek ee : VE}
/-- a pair goes into the new dict at D -/
def DSt (C : Ct) (D : Addr) (y z : V) (H : Hp) (N : Hp → Prop) : Prop := ∃ r s0 ku vu, r.w = C.w ∧ RO C r H D (.dct s0) ∧ Rp r H ku y ∧ Rp r H vu z ∧ dOk s0 ku = true ∧ dlk s0 ku ≠ none ∧ dlen s0 ≤ 100000 ∧
  ∀ ob, (∀ H', Kq H H' → H' D = some ob → RO C r H' D (.dct (dput s0 ku vu))) → N (upd H D ob)
/-- .. of any keys -/
def tDcU (C : Ct) (wi : TI) (g : TG) (tt : TT) (tk tv : TE) (vs : List Nat) : TE := fun σ H Q => wi σ H fun J H1 => ∀ D, H1 D = none → ∃ W : Nat → Nat → Hp → Prop, (∃ m, W 0 m (upd H1 D (.dK []))) ∧ ∀ i m H, W i m H →
  (J.stop i H ∧ Q (.ref D) H) ∨ (J.go i H ∧ ∃ N : Hp → Prop, (∀ H', N H' → ∃ m', m' < m ∧ W (i + 1) m' H') ∧ ∀ x H', J.yld i H x H' → g x (L2.wipe σ vs) H' fun σ2 H2 => L2.wipe σ2 vs = L2.wipe σ vs ∧ tt σ2 H2 fun b H3 =>
    if b = true then tk σ2 H3 fun y H4 => tv σ2 H4 fun z H5 => DSt C D y z H5 N else N H3)
/-- the turns of the block, in the context of the block Y; back in the def's: fin -/
theorem dcU_loop {Y : Cx} {g : TG} {tt : TT} {tk tv : TE} {J : It} {fp : List Addr} {it0 D : Addr} {tn : Nat → Heap → Prop} {W : Nat → Nat → Hp → Prop} {vs : List Nat} {σ : L2.St} {s4 : Shared} {H4 : Hp} {m0 : Nat} {R : Result → Shared → Prop} {Qe : Hp → Prop}
    (hw : Y.w = C.w) (room : Y.A.units + 8 < cLine) (hc : Y.calm = true) (T : Turn Y.prog Y.w Y.K tg J fp it0 tn) (pg : PG Y tg g) (pt : PTs Y ifs tt) (pk : PE Y kx tk) (pv : PE Y vx tv)
    (st : ∀ {σ' : L2.St} {H' : Hp} {s' : Shared}, Inv Y [] σ' H' s' → (∀ b ∈ fp, H' b = none) → ∀ b ∈ fp, FpOk Y [] H' b) (xe : ∀ v s', ¬ Y.xe v s')
    (fin : ∀ s' H', Inv Y [] (L2.wipe σ vs) H' s' → Qe H' → R (.ok .next) s')
    (turn : ∀ i m H, W i m H → (J.stop i H ∧ Qe H) ∨ (J.go i H ∧ ∃ N : Hp → Prop, (∀ H', N H' → ∃ m', m' < m ∧ W (i + 1) m' H') ∧ ∀ x H', J.yld i H x H' → g x (L2.wipe σ vs) H' fun σ2 H2 => L2.wipe σ2 vs = L2.wipe σ vs ∧ tt σ2 H2 fun b H3 =>
      if b = true then tk σ2 H3 fun y H4 => tv σ2 H4 fun z H5 => DSt C D y z H5 N else N H3))
    (I4 : Inv Y [] (L2.wipe σ vs) H4 s4) (t4 : tn 0 s4.heap) (n4 : ∀ b ∈ fp, H4 b = none) (w0 : W 0 m0 H4) :
    codeAny (model Y.prog Y.w) Y.A (.compLoop (.DictComp kx vx [⟨tg, it, ifs, 0⟩] scope pos) 0 (.ref it0) (.ref D) Y.env) R s4 := by
  refine compLoop_anyD (fun n s' => ∃ i G, Inv Y [] (L2.wipe σ vs) G s' ∧ tn i s'.heap ∧ (∀ b ∈ fp, G b = none) ∧ W i n G) ?_ m0 ⟨0, H4, I4, t4, n4, w0⟩
  rintro n z ⟨i, G, Iz, tz, nz, wz⟩
  have up : ∀ {α : Type} {t : PySem.Sem α} {P P' : α → Shared → Prop} {E' : Value → Shared → Prop} {s' : Shared}, wpAny (model Y.prog Y.w) Y.A t P Y.xe s' → (∀ a s, P a s → P' a s) → wpAny (model Y.prog Y.w) Y.A t P' E' s' := fun h1 h2 => wpAny_mono h1 h2 fun v s' z => absurd z (xe v s')
  rcases turn i n G wz with ⟨stop, qq⟩ | ⟨go, N, hN, step⟩
  · have td := T.done Y rfl rfl rfl hc i [] z _ G Y.xe Iz (st Iz nz) tz stop
    refine up td fun o z1 ⟨ho, I1⟩ => ?_
    subst ho
    exact fin z1 G I1 qq
  · have ti := T.item Y rfl rfl rfl hc i [] z _ G Y.xe Iz (st Iz nz) tz go
    refine up ti fun o z1 ⟨u, ho, q1⟩ => ?_
    subst ho
    refine up q1 fun _ z2 ⟨x, G2, I2, r2, y2, t2, n2⟩ => ?_
    have pin := I2.pinned (st I2 n2) (T.obj _ _ t2)
    refine up (pg.run _ z2 _ G2 x u _ pin r2 (step x G2 y2)) fun _ z3 ⟨σ3, G3, I3, hw3, q3⟩ => up (pt.run _ z3 σ3 G3 _ I3 q3) fun b z4 ⟨G4, J4, q4⟩ => ?_
    -- from a turn's end to the next turn
    have back : ∀ {z' : Shared} {G' : Hp}, Inv Y ([] ++ pinsAt fp z2.heap) σ3 G' z' → N G' → ∃ m, m < n ∧ ∃ i H', Inv Y [] (L2.wipe σ vs) H' z' ∧ tn i z'.heap ∧ (∀ b ∈ fp, H' b = none) ∧ W i m H' := fun {z' G'} I' nx => by
      obtain ⟨m', hm, w'⟩ := hN G' nx
      have held : ∀ b ∈ fp, ∀ o, z2.heap.get? b = some o → z'.heap.get? b = some o ∧ G' b = none := fun b hb o e => by
        have z := I'.pin (b, o) (List.mem_append_right _ (List.mem_append_right _ (mem_pinsAt hb e)))
        exact ⟨z.1, z.2.1⟩
      refine ⟨m', hm, i + 1, G', (I'.unpinned (pins := [])).weak (by rw [← hw3, wipe_length]) (fun j v e => (wipe_some (by rw [hw3]; exact e)).1), T.keep _ _ _ t2 fun b hb o e => (held b hb o e).1, fun b hb => ?_, w'⟩
      obtain ⟨o, e, _⟩ := T.obj _ _ t2 b hb
      exact (held b hb o e).2
    cases b with
    | false => exact back J4 q4
    | true =>
      have q4 : tk σ3 G4 fun y G5 => tv σ3 G5 fun z G6 => DSt C D y z G6 N := q4
      refine up (pk.run _ z4 σ3 G4 _ J4 q4) fun kv z5 ⟨yk, G5, I5, r5, q5⟩ => up (pv.run _ z5 σ3 G5 _ I5 q5) fun vv z6 ⟨yv, G6, I6, r6, r, s0, ku, vu, hrw, hD, p1, p2, ok, hl, hz, nx⟩ => ?_
      obtain ⟨ob, hob, run⟩ := dv_set (X := Y) (A := Y.A) (E := Y.xe) I6 (hrw.trans hw.symm) hD p1 r5 p2 r6 ok hl hz
      exact up ((run _ fun z7 I7 => back I7 (nx ob hob)).1 room) fun _ _ z => z
/-- {k: v for tg in it if ..} -/
theorem pe_dcU {wi : TI} {g : TG} {tt : TT} {tk tv : TE} (hcw : X.w = C.w) (room : X.A.units + 8 < cLine) (hc : X.calm = true) (hN : X.N.Nodup) (hi : PI X tg it wi) (ok : BlkOk X.N X.env.scope scope own)
    (hg : ∀ (s : Shared) (H : Hp) (Cc : Addr) (cl : List (Str × Addr)) (fp : List Addr), PG (X.blk s H scope (compEnvC scope cl Cc X.env) fp) tg g)
    (ht : ∀ (s : Shared) (H : Hp) (Cc : Addr) (cl : List (Str × Addr)) (fp : List Addr), PTs (X.blk s H scope (compEnvC scope cl Cc X.env) fp) ifs tt)
    (hk : ∀ (s : Shared) (H : Hp) (Cc : Addr) (cl : List (Str × Addr)) (fp : List Addr), PE (X.blk s H scope (compEnvC scope cl Cc X.env) fp) kx tk)
    (hv : ∀ (s : Shared) (H : Hp) (Cc : Addr) (cl : List (Str × Addr)) (fp : List Addr), PE (X.blk s H scope (compEnvC scope cl Cc X.env) fp) vx tv)
    (hs : ∀ x, foldedSetIterable it X.env x = pure x := by intro _; rfl) : PE X (.DictComp kx vx [⟨tg, it, ifs, 0⟩] scope pos) (tDcU C wi g tt tk tv (own.map (·.2))) := by
  refine ⟨fun pins s σ H Q I rd => ?_⟩
  have cells : ∀ y ∈ scope.names, y.2 = .free → ∃ c, X.env.cells.lookup y.1 = some c := fun y hy e => (ok.free y hy e).elim (fun z => I.ok.has _ (.inl z)) fun z => I.ok.has _ (.inr z)
  rw [arm_eval_DictComp]
  refine wpAny_comprehension_free rfl hs (closure_ok cells) ok.kind (fun y hy e => (ok.uniq y hy).trans (by rw [e])) (thn (hi.run pins s σ H _ I rd) fun xv s1 hx => thn hx fun itv s2 ⟨i0, fp, tn, J, H2, ei, I2, T, st2, f2, q⟩ => ?_)
  subst ei
  refine wpAny_newObj_type (newEnv_comp (?_))
  obtain ⟨W, ⟨m0, w0⟩, turn⟩ := q s2.heap.objs.size I2.fresh
  have low : ∀ b ∈ fp, b < s2.heap.objs.size := fun b hb => let ⟨_, e, _⟩ := T.obj _ _ st2 b hb; Heap.lt_size e
  -- the new dict is laid
  generalize hs3 : ({ s2 with heap := s2.heap.push { cls := .type "dict", data := .dict #[] } } : Shared) = s3
  have e3 : s3.heap = s2.heap.push { cls := .type "dict", data := .dict #[] } := by rw [← hs3]
  have I3 : Inv X pins σ (upd H2 s2.heap.objs.size (.dK [])) s3 := by
    rw [← hs3]
    exact I2.laid (t' := s2.toks) (fun b o e => Heap.get?_push_of_some _ e) (Nat.le_refl _) (dk_empty s2.heap I2.big)
  have f3 : ∀ b ∈ fp, FpOk X pins (upd H2 s2.heap.objs.size (.dK [])) b ∧ b < s3.heap.objs.size := fun b hb =>
    ⟨⟨by rw [upd_ne (Nat.ne_of_lt (low b hb))]; exact (f2 b hb).1, (f2 b hb).2⟩, by rw [e3, Heap.size_push]; exact Nat.lt_succ_of_lt (low b hb)⟩
  have st3 : tn 0 s3.heap := T.keep _ _ _ st2 fun b _ o e => by rw [e3]; exact Heap.get?_push_of_some _ e
  have I4 := block_start I3 ok hN f3
  have gg := hg s3 (upd H2 s2.heap.objs.size (.dK [])) s3.heap.objs.size (cellsFrom (s3.heap.objs.size + 1) scope.names (cloFrom X.env.cells scope.names [])) fp
  have gt := ht s3 (upd H2 s2.heap.objs.size (.dK [])) s3.heap.objs.size (cellsFrom (s3.heap.objs.size + 1) scope.names (cloFrom X.env.cells scope.names [])) fp
  have gk := hk s3 (upd H2 s2.heap.objs.size (.dK [])) s3.heap.objs.size (cellsFrom (s3.heap.objs.size + 1) scope.names (cloFrom X.env.cells scope.names [])) fp
  have gv := hv s3 (upd H2 s2.heap.objs.size (.dK [])) s3.heap.objs.size (cellsFrom (s3.heap.objs.size + 1) scope.names (cloFrom X.env.cells scope.names [])) fp
  show codeAny _ _ (.compStart (.DictComp kx vx [⟨tg, it, ifs, 0⟩] scope pos) 0 (.ref i0) (.ref s2.heap.objs.size) (compEnvC scope (cellsFrom (s3.heap.objs.size + 1) scope.names (cloFrom X.env.cells scope.names [])) s3.heap.objs.size X.env))
    (compPost (model X.prog X.w) X.A X.xe none (EP X pins σ Q) (.ref s2.heap.objs.size) s3.heap.objs.size) { s3 with heap := pushCells (s3.heap.push { cls := .type "dict", data := .dict #[] }) scope.names }
  generalize hce : compEnvC scope (cellsFrom (s3.heap.objs.size + 1) scope.names (cloFrom X.env.cells scope.names [])) s3.heap.objs.size X.env = ce at I4 gg gt gk gv ⊢
  have cL : ce.locals = s3.heap.objs.size := by rw [← hce]; rfl
  generalize hs4 : ({ s3 with heap := pushCells (s3.heap.push { cls := .type "dict", data := .dict #[] }) scope.names } : Shared) = s4 at I4 ⊢
  have st4 : tn 0 s4.heap := T.keep _ _ _ st3 fun b _ o e => by rw [← hs4]; exact pushCells_keeps _ _ _ _ (Heap.get?_push_of_some _ e)
  refine codeAny_compStart_dict ?loop (T.self X.A 0 _ _ _ st4 ?loop)
  case loop =>
    refine dcU_loop (Y := X.blk s3 (upd H2 s2.heap.objs.size (.dK [])) scope ce fp) (W := W) (J := J) (Qe := Q (.ref s2.heap.objs.size)) hcw room hc T gg gt gk gv
      (fun {σ' H' s'} I' hn b hb => ⟨hn b hb, (I'.ok.exf b hb).1, I'.ok.exfs b hb, .inl hb, fun x c e => (I'.ok.exf b hb).2 x c e, fun w hw => absurd (show w ∈ ([] : List (Addr × Obj)) ++ [] from hw) (by simp)⟩)
      (fun _ _ z => z) (fun s6 H6 I6 qq => ?_) turn I4 st4 (fun b hb => (f3 b hb).1.1) w0
    have I7 : Inv X pins σ H6 s6 := I3.call' (ch := fp) I6.os I6.base I6.hok I6.bare fun b hb => ⟨(f3 b hb).1.2.2.2.1, (f3 b hb).1.2.1, (f3 b hb).1.2.2.2.2.1, (f3 b hb).1.2.2.2.2.2⟩
    have nC : H6 s3.heap.objs.size = none := by rw [← cL]; exact I6.free
    obtain ⟨m, hn, _⟩ := I6.loc
    have hn : s6.heap.Ns s3.heap.objs.size m := by rw [← cL]; exact hn
    obtain ⟨g0, g1, g2, g3, g4, g5⟩ := I3.fpOk (Nat.le_refl _) nC
    exact ⟨m, hn, fun h'' sb => ⟨.ref s2.heap.objs.size, H6, I7.turned (t' := s6.toks) (fun b o hb e => (sb.2 b hb).trans e) g0 g1 g3 g4 g5, rfl, qq⟩⟩
/-! ### the turns, by the evaluation -/
structure TodoD (C : Ct) (y : Bool) (J : It) (r1 : Rf) (H1 : Hp) (t : VT) (f : Sem) (s : VS) (cf : U) (hf : VH) (T : Nat → Nat → U → VH → Prop) : Prop where
  step : ∀ m i c h r H, T m i c h → r1.Le r → Kq H1 H → RH C r H h → (J.stop i H ∧ c = cf ∧ h = hf) ∨
    ∃ a s' c1 h1 m', m' < m ∧ (J.go i H ∧ ∀ x H', J.yld i H x H' → Kp r H r H' ∧ (∀ h, RH C r H h → RH C r H' h) ∧ RpB y r H' a x) ∧ asgT none t a s h some = some s' ∧ f c s' h = .one c1 h1 ∧ T m' (i + 1) c1 h1
theorem todoDV {y : Bool} {J : It} {r1 : Rf} {H1 : Hp} {t : VT} {f : Sem} {s : VS} {cf : U} {hf : VH} {s0 : U} (at_ : ∀ i r H, r1.Le r → Kq H1 H → At C y J r H s0 i) : TodoD C y J r1 H1 t f s cf hf (fun m i c h => ∃ sp, Left s0 i sp ∧ m = sp.len ∧ cforV t f sp c s h = .one cf hf) where
  step := fun m i c h r H ⟨sp, lf, em, e⟩ l k rh => by
    have a2 := at_ i r H l k
    have e0 : nthU sp 0 = nthU s0 i := lf 0
    cases sp with
    | cons a b =>
      rw [cforV_cons, asgT_eq] at e
      cases hx : asgT none t a s h some with
      | none => rw [hx] at e; cases e
      | some s' =>
        rw [hx] at e
        obtain ⟨c1, h1, z1, e⟩ := bind_one e
        exact .inr ⟨a, s', c1, h1, b.len, by rw [em]; exact Nat.lt_succ_self _, a2.1 a (e0.symm.trans rfl), hx, z1, b, lf.next, rfl, e⟩
    | _ =>
      cases (show VR.one c h = .one cf hf from e)
      exact .inl ⟨a2.2 (e0.symm.trans rfl), rfl, rfl⟩
theorem todoDL {y : Bool} {J : It} {r1 : Rf} {H1 : Hp} {t : VT} {f : Sem} {s : VS} {cf : U} {hf : VH} {k0 : Nat} (at_ : ∀ i r H h z, r1.Le r → Kq H1 H → RH C r H h → h.find? k0 = some (.lst z) → At C y J r H z i) : TodoD C y J r1 H1 t f s cf hf (fun m i c h => cforL t f k0 m i c s h = .one cf hf) where
  step := fun m i c h r H e l k rh => by
    obtain ⟨z, w', rfl, hk, e⟩ := cforL_one e
    have a2 := at_ i r H h z l k rh hk
    rcases e with ⟨e1, rfl, rfl⟩ | ⟨a, s', c1, h1, e1, e2, e3, e4⟩
    · exact .inl ⟨a2.2 e1, rfl, rfl⟩
    · exact .inr ⟨a, s', c1, h1, w', Nat.lt_succ_self _, a2.1 a e1, e2, e3, e4⟩
theorem dputC_two {s y u w : U} {h' : VH} {n : Nat} {f : U → VR} (e : dputC s y u (.bad n) f = .one w h') : dOk s y = true ∧ dlk s y ≠ none ∧ dlen s ≤ 100000 ∧ f (dput s y u) = .one w h' := dputC_one e (by intro z; cases z)
theorem dc_turns {y0 : Bool} {J : It} {r1 : Rf} {H1 : Hp} {s : VS} {σ : L2.St} {cf : U} {hf h1 : VH} {T : Nat → Nat → U → VH → Prop} {m0 : Nat} {Q : VK} {vs : List Nat}
    (td : TodoD C y0 J r1 H1 t (ev p call (.cif ec (.cend2 ek ee))) (unsetL s vs) cf hf T) (hv : ∀ i ∈ t.slots, i ∈ vs) (t0 : T m0 0 .nil h1) (rh1 : RH C r1 H1 h1) (rs1 : RS r1 H1 s σ)
    (q : ∀ r H D, r1.Le r → Kp r1 H1 r H → RH C r H hf → (∀ k, r.ρ k ≠ some D) → H1 D = none → RO C r H D (.dct cf) → Q (.ref D) H) :
    ∀ D, H1 D = none → ∃ W : Nat → Nat → Hp → Prop, (∃ m, W 0 m (upd H1 D (.dK []))) ∧ ∀ i m H, W i m H →
      (J.stop i H ∧ Q (.ref D) H) ∨ (J.go i H ∧ ∃ N : Hp → Prop, (∀ H', N H' → ∃ m', m' < m ∧ W (i + 1) m' H') ∧ ∀ x H', J.yld i H x H' → tSG C y0 t x (L2.wipe σ vs) H' fun σ2 H2 => L2.wipe σ2 vs = L2.wipe σ vs ∧ tSTx C (ev p call ec) σ2 H2 fun b H3 =>
        if b = true then tSx C (ev p call ek) σ2 H3 fun y H4 => tSx C (ev p call ee) σ2 H4 fun z H5 => DSt C D y z H5 N else N H3) := by
  intro D hD
  have d0 : ∀ k, r1.ρ k ≠ some D := fun k e => by obtain ⟨o, z⟩ := rh1.live k D e; rw [hD] at z; cases z
  refine ⟨fun i m H => ∃ r h c, T m i c h ∧ r1.Le r ∧ Kp r1 H1 r H ∧ RH C r H h ∧ (∀ k, r.ρ k ≠ some D) ∧ RO C r H D (.dct c), ⟨m0, r1, h1, .nil, t0, Rf.Le.refl _, Kp.new hD, rh1.more (new_keeps hD), d0, .inl ⟨[], upd_same, List.nodup_nil, rfl⟩⟩, ?_⟩
  rintro i m H ⟨r, h, c, ht, l, k, rh, hd, hc⟩
  rcases td.step m i c h r H ht l k.q rh with ⟨st, rfl, rfl⟩ | ⟨a, s', c1, h1', m', hm, ⟨go, yl⟩, hx, hf1, ht'⟩
  · exact .inl ⟨st, q r H D l k rh hd hD hc⟩
  · refine .inr ⟨go, fun H' => ∃ m', m' < m ∧ ∃ r h c, T m' (i + 1) c h ∧ r1.Le r ∧ Kp r1 H1 r H' ∧ RH C r H' h ∧ (∀ k, r.ρ k ≠ some D) ∧ RO C r H' D (.dct c), fun H' z => z, fun x H' y => ?_⟩
    obtain ⟨k1, rh', hp1⟩ := yl x H' y
    -- the dict stays where only the evaluation's own go on
    have on : ∀ {ra rb : Rf} {Ha Hb : Hp}, ra.Le rb → Kp ra Ha rb Hb → (∀ k, ra.ρ k ≠ some D) → RO C ra Ha D (.dct c) → (∀ k, rb.ρ k ≠ some D) ∧ RO C rb Hb D (.dct c) := fun {ra rb Ha Hb} lab kab hda hoa => by
      obtain ⟨o, ho, _⟩ := hoa.not_tup
      obtain ⟨e1, e2⟩ := kab.ap D o ho hda
      exact ⟨e2, hoa.mono lab kab (e1.trans ho.symm)⟩
    have rs' : RS r H' (unsetL s vs) (L2.wipe σ vs) := ((rs1.mono l k).mono (Rf.Le.refl _) k1).wipe vs |>.1
    refine ⟨r, h, unsetL s vs, a, s', rh' h rh, rs', hp1, hx, fun σ2 rs2 onl => ⟨(onl vs hv).trans (wipe_wipe vs vs σ fun _ h => h), ?_⟩⟩
    obtain ⟨tv, ht1, e1, e2⟩ := bind_one hf1
    rw [true_eq] at e2
    cases htr : truth tv ht1 with
    | none => rw [htr] at e2; cases e2
    | some b =>
      rw [htr] at e2
      refine ⟨c, r, h, s', tv, ht1, b, rh' h rh, rs2, e1, htr, fun r3 H3 l3 k3 rh3 => ?_⟩
      obtain ⟨hd1, hc1⟩ := on (Rf.Le.refl r) k1 hd hc
      obtain ⟨hd3, hc3⟩ := on l3 k3 hd1 hc1
      have kk := (k.trans k1).trans k3
      have ll := l.trans l3
      cases b with
      | false =>
        show (if false = true then _ else _)
        rw [if_neg (by decide)]
        cases (show VR.one c ht1 = .one c1 h1' from e2)
        exact ⟨m', hm, r3, _, c, ht', ll, kk, rh3, hd3, hc3⟩
      | true =>
        show (if true = true then _ else _)
        rw [if_pos rfl]
        obtain ⟨ku, h4, e3, e2⟩ := bind_one (show VR.bind (ev p call ek c s' ht1) (fun k h => VR.bind (ev p call ee c s' h) fun v h => dputC c k v (.bad 144) (fun d => .one d h)) = .one c1 h1' from e2)
        obtain ⟨vu, h5, e4, e2⟩ := bind_one e2
        obtain ⟨ok, hl, hz, e2⟩ := dputC_two e2
        cases e2
        refine ⟨c, r3, ht1, s', ku, h4, rh3, rs2.mono l3 k3, e3, fun r4 H4 y4 l4 k4 rh4 p4 => ⟨c, r4, h4, s', vu, _, rh4, (rs2.mono l3 k3).mono l4 k4, e4, fun r5 H5 v5 l5 k5 rh5 p5 => ?_⟩⟩
        obtain ⟨hd4, hc4⟩ := on l4 k4 hd3 hc3
        obtain ⟨hd5, hc5⟩ := on l5 k5 hd4 hc4
        refine ⟨r5, c, ku, vu, rh5.w, hc5, p4.mono l5 k5, p5, ok, hl, hz, fun ob hob => ?_⟩
        obtain ⟨o, ho, n1, n2⟩ := hc5.not_tup
        obtain ⟨g1, g2⟩ := rh5.other (o := ob) hd5 ho n1 n2
        exact ⟨m', hm, r5, _, dput c ku vu, ht', (ll.trans l4).trans l5, ((kk.trans k4).trans k5).other hD, g1, hd5, hob _ g2 upd_same⟩
theorem r_dc {y0 : Bool} (xc : XC C X k) (hi : SI C X y0 tg it (ev p call ea)) (ok : BlkOk X.N X.env.scope scope own) (hv : ∀ i ∈ t.slots, i ∈ own.map (·.2))
    (hg : ∀ (s : Shared) (H : Hp) (Cc : Addr) (cl : List (Str × Addr)) (fp : List Addr), SG C (X.blk s H scope (compEnvC scope cl Cc X.env) fp) y0 tg t)
    (ht : ∀ (s : Shared) (H : Hp) (Cc : Addr) (cl : List (Str × Addr)) (fp : List Addr), STs C (X.blk s H scope (compEnvC scope cl Cc X.env) fp) ifs (ev p call ec))
    (hk : ∀ (s : Shared) (H : Hp) (Cc : Addr) (cl : List (Str × Addr)) (fp : List Addr), SE C (X.blk s H scope (compEnvC scope cl Cc X.env) fp) kx (ev p call ek))
    (he : ∀ (s : Shared) (H : Hp) (Cc : Addr) (cl : List (Str × Addr)) (fp : List Addr), SE C (X.blk s H scope (compEnvC scope cl Cc X.env) fp) vx (ev p call ee)) (hs : ∀ x, foldedSetIterable it X.env x = pure x := by intro _; rfl) :
    SE C X (.DictComp kx vx [⟨tg, it, ifs, 0⟩] scope pos) (ev p call (.dcomp (wips (own.map (·.2)) (.cfor t ea (.cif ec (.cend2 ek ee)))))) := fun cc => by
  have P := pe_dcU (pos := pos) (C := C) xc.w (by have := xc.room.un; omega) xc.calm xc.nd hi ok (fun s H Cc cl fp => hg s H Cc cl fp) (fun s H Cc cl fp => pts_x (ht s H Cc cl fp)) (fun s H Cc cl fp => pe_x (hk s H Cc cl fp)) (fun s H Cc cl fp => pe_x (he s H Cc cl fp)) hs
  refine (PE.icy P).weak fun σ H Q ⟨r, h, s, u, h', rh, rs, e, q⟩ => ?_
  obtain ⟨cf, hf, e1, e⟩ := bind_one e
  cases (show VR.one (.vd cf) hf = .one u h' from e)
  have e1 : ev p call (wips (own.map (·.2)) (.cfor t ea (.cif ec (.cend2 ek ee)))) .nil s h = .one cf h' := e1
  rw [ev_wips] at e1
  obtain ⟨u1, h1, e2, e3⟩ := bind_one (show VR.bind (ev p call ea .nil (unsetL s (own.map (·.2))) h) (fun x h => x.walk h (.bad 122) (fun z => cforV t (fun c σ h => ev p call (.cif ec (.cend2 ek ee)) c σ h) z .nil (unsetL s (own.map (·.2))) h) (fun k => cforL t (fun c σ h => ev p call (.cif ec (.cend2 ek ee)) c σ h) k 100000 0 .nil (unsetL s (own.map (·.2))) h)) = .one cf h' from e1)
  rw [walk_eq] at e3
  have n : walkOf u1 h1 ≠ none := fun z => by rw [z] at e3; cases e3
  have fin : ∀ r1 H1, r.Le r1 → Kp r H r1 H1 → ∀ r2 H2 D, r1.Le r2 → Kp r1 H1 r2 H2 → RH C r2 H2 h' → (∀ k, r2.ρ k ≠ some D) → H1 D = none → RO C r2 H2 D (.dct cf) → ∃ a q, V.ref D = .ref a ∧ H2 a = some q ∧ Icy q ∧ ∀ o, Q (.ref D) (upd H2 a (.frz o q)) := by
    intro r1 H1 l1 k1 r2 H2 D l2 k2 rh2 hd h1D hc
    obtain ⟨o, ho, ic, g⟩ := hc.vd
    refine ⟨D, o, rfl, ho, ic, fun ob => ?_⟩
    obtain ⟨rh3, kq⟩ := rh2.other (o := .frz ob o) hd ho ic.tup ic.frz
    exact q r2 _ (.ref D) (l1.trans l2) (k1.trans (k2.other h1D)) rh3 (g _ ob kq upd_same)
  refine ⟨r, h, unsetL s (own.map (·.2)), u1, h1, rh, (rs.wipe _).2, e2, n, fun r1 H1 J l1 k1 rh1 wk => ?_⟩
  have rs1 := rs.mono l1 k1
  cases hw : walkOf u1 h1 with
  | none => exact absurd hw n
  | some y =>
    rw [hw] at e3
    cases y with
    | inl s0 => exact dc_turns (Q := fun v H1 => ∃ a q, v = .ref a ∧ H1 a = some q ∧ Icy q ∧ ∀ o, Q v (upd H1 a (.frz o q))) (todoDV (wk.1 s0 hw)) hv ⟨s0, Left.zero s0, rfl, e3⟩ rh1 rs1 (fin r1 H1 l1 k1)
    | inr k0 => exact dc_turns (Q := fun v H1 => ∃ a q, v = .ref a ∧ H1 a = some q ∧ Icy q ∧ ∀ o, Q v (upd H1 a (.frz o q))) (todoDL (wk.2 k0 hw)) hv e3 rh1 rs1 (fin r1 H1 l1 k1)
end
end
end VI
namespace VI
open PySem PySem.Spec PyProof.Rows L2
noncomputable section
/-! ### put in one by one, or sorted: one list -/
section
variable {β : Type} {le : β → β → Bool}
/-- behind all that are not greater -/
def putIn (le : β → β → Bool) (x : β) : List β → List β
  | [] => [x]
  | y :: l => if le y x = true then y :: putIn le x l else x :: y :: l
theorem putIn_mem {x z : β} : ∀ {l : List β}, z ∈ putIn le x l → z = x ∨ z ∈ l
  | [], h => .inl (List.mem_singleton.mp h)
  | y :: l, h => by
    unfold putIn at h
    split at h
    · rcases List.mem_cons.mp h with e | e
      · exact .inr (by rw [e]; exact List.mem_cons_self ..)
      · exact (putIn_mem e).imp_right fun z => List.mem_cons_of_mem _ z
    · exact (List.mem_cons.mp h)
theorem putIn_sorted (t : PySem.W.TotalLe le) {x : β} : ∀ {l : List β}, l.Pairwise (fun a b => le a b = true) → (putIn le x l).Pairwise (fun a b => le a b = true)
  | [], _ => List.pairwise_singleton _ _
  | y :: l, h => by
    rw [List.pairwise_cons] at h
    unfold putIn
    split
    · rename_i hy
      rw [List.pairwise_cons]
      refine ⟨fun z hz => ?_, putIn_sorted t h.2⟩
      rcases putIn_mem hz with e | e
      · rw [e]; exact hy
      · exact h.1 z e
    · rename_i hy
      have xy : le x y = true := (t.total x y).resolve_right hy
      rw [List.pairwise_cons, List.pairwise_cons]
      refine ⟨fun z hz => ?_, h⟩
      rcases List.mem_cons.mp hz with e | e
      · rw [e]; exact xy
      · exact t.trans _ _ _ xy (h.1 z e)
theorem putIn_stable (t : PySem.W.TotalLe le) {x : β} (c : β) : ∀ {l : List β}, l.Pairwise (fun a b => le a b = true) → (putIn le x l).filter (PySem.W.sameRank le c) = (l ++ [x]).filter (PySem.W.sameRank le c)
  | [], _ => rfl
  | y :: l, h => by
    rw [List.pairwise_cons] at h
    unfold putIn
    split
    · rw [List.cons_append, List.filter_cons, List.filter_cons, putIn_stable t c h.2]
    · rename_i hy
      -- none of those behind is of x's rank
      by_cases hx : PySem.W.sameRank le c x = true
      · have no : ∀ z ∈ y :: l, ¬ PySem.W.sameRank le c z = true := fun z hz hc => by
          have yz : le y z = true := by
            rcases List.mem_cons.mp hz with e | e
            · rw [e]; exact t.refl y
            · exact h.1 z e
          unfold PySem.W.sameRank at hx hc
          rw [Bool.and_eq_true] at hx hc
          exact hy (t.trans _ _ _ yz (t.trans _ _ _ (by first | exact hc.1 | exact hc.2) (by first | exact hx.1 | exact hx.2)))
        rw [List.filter_append, List.filter_cons, if_pos hx, List.filter_eq_nil_iff.mpr no, List.filter_cons, if_pos hx]
        rfl
      · have e : [x].filter (PySem.W.sameRank le c) = [] := by rw [List.filter_cons, if_neg hx]; rfl
        rw [List.filter_append, e, List.append_nil, List.filter_cons, if_neg hx]
def putAll (le : β → β → Bool) : List β → List β → List β
  | acc, [] => acc
  | acc, x :: l => putAll le (putIn le x acc) l
theorem putAll_ok (t : PySem.W.TotalLe le) : ∀ (l acc done : List β), acc.Pairwise (fun a b => le a b = true) → (∀ c, acc.filter (PySem.W.sameRank le c) = done.filter (PySem.W.sameRank le c)) → putAll le acc l = (done ++ l).mergeSort le
  | [], acc, done, h1, h2 => by rw [List.append_nil]; exact PySem.W.sort_unique t h1 h2
  | x :: l, acc, done, h1, h2 => by
    unfold putAll
    rw [putAll_ok t l (putIn le x acc) (done ++ [x]) (putIn_sorted t h1) fun c => ?_]
    · rw [List.append_assoc]; rfl
    · rw [putIn_stable t c h1, List.filter_append, List.filter_append, h2 c]
theorem putAll_sort (t : PySem.W.TotalLe le) (l : List β) : putAll le [] l = l.mergeSort le := putAll_ok t l [] [] List.Pairwise.nil fun _ => rfl
end
end
end VI
namespace VI
open PySem PySem.Spec PyProof.Rows L2
noncomputable section
/-! ### keys and items in order -/
structure KB where
  ku : U
  au : U
  d : PyData
  xv : V
def spB : List KB → U
  | [] => .nil
  | b :: l => .cons b.ku (.cons b.au (spB l))
def leB : KB → KB → Bool := PySem.W.dataLe false fun b => b.d
theorem leB_eq (c x : KB) : leB c x = !PySem.W.dataLt x.d c.d := rfl
theorem leB_total : PySem.W.TotalLe leB := by
  have z := PySem.W.sortLe_total (listOrd itemOrd) false (fun b : KB => PySem.W.keyToks b.d)
  exact z
theorem insC_cons (k v t x y : U) (f : U → VR) : insC (.cons k (.cons v t)) x y f = (Tri.rec (insC t x y (fun t => f (.cons k (.cons v t)))) (f (.cons x (.cons y (.cons k (.cons v t))))) (.bad 43) (ltU x k) : VR) := rfl
theorem insC_one {x y : U} {dx : PyData} {xv : V} (hx : uD x = some dx) {w : U} {h' : VH} : ∀ {L : List KB} {f : U → VR}, (∀ b ∈ L, uD b.ku = some b.d ∧ PySem.W.alike dx b.d = true) → insC (spB L) x y f = .one w h' → f (spB (putIn leB ⟨x, y, dx, xv⟩ L)) = .one w h'
  | [], f, _, e => e
  | b :: l, f, hL, e => by
    obtain ⟨h1, h2⟩ := hL b (List.mem_cons_self ..)
    have sy := (ltU_ok x).1 dx b.ku b.d hx h1 h2
    rw [show spB (b :: l) = .cons b.ku (.cons b.au (spB l)) from rfl, insC_cons] at e
    unfold putIn
    rw [leB_eq]
    cases hq : ltU x b.ku with
    | no =>
      rw [hq] at e
      rw [if_pos (by rw [show PySem.W.dataLt dx b.d = false from sy.2 hq]; rfl)]
      exact insC_one (xv := xv) hx (L := l) (f := fun t => f (.cons b.ku (.cons b.au t))) (fun c hc => hL c (List.mem_cons_of_mem _ hc)) e
    | yes =>
      rw [hq] at e
      rw [if_neg (by rw [show PySem.W.dataLt dx b.d = true from sy.1 hq]; decide)]
      exact e
    | unk => rw [hq] at e; cases e
theorem alS_cons (k v t x : U) : alS (.cons k (.cons v t)) x = (Bool.rec false (Bool.rec false (alS t x) (alU x k)) (alU k x) : Bool) := rfl
theorem alS_ok {x : U} {dx : PyData} (hx : uD x = some dx) : ∀ {L : List KB}, (∀ b ∈ L, uD b.ku = some b.d) → alS (spB L) x = true → ∀ b ∈ L, PySem.W.alike dx b.d = true ∧ PySem.W.alike b.d dx = true
  | [], _, _, b, hb => nomatch hb
  | c :: l, hL, e, b, hb => by
    have hc := hL c (List.mem_cons_self ..)
    rw [show spB (c :: l) = .cons c.ku (.cons c.au (spB l)) from rfl, alS_cons, (alU_eq c.ku).1 c.d x dx hc hx, (alU_eq x).1 dx c.ku c.d hx hc] at e
    cases h1 : PySem.W.alike c.d dx with
    | false => rw [h1] at e; cases e
    | true =>
      cases h2 : PySem.W.alike dx c.d with
      | false => rw [h1, h2] at e; cases e
      | true =>
        rw [h1, h2] at e
        rcases List.mem_cons.mp hb with z | z
        · rw [z]; exact ⟨h2, h1⟩
        · exact alS_ok hx (fun b hb => hL b (List.mem_cons_of_mem _ hb)) e b z
theorem srt1_cases {r : Rf} {H : Hp} {x : U} {v : V} (hr : Rp r H x v) (h : srt1 x ≠ 0) : ∃ d, uD x = some d ∧ d.depth ≤ 50 ∧ ((srt1 x = 1 ∧ d ≠ .none ∧ ∀ l, d ≠ .tuple l) ∨ (srt1 x = 2 ∧ ∃ z l, d = .tuple (z :: l))) := by
  cases x with
  | int i => exact ⟨.int i, rfl, (by simp [PyData.depth]), .inl ⟨rfl, (by intro z; cases z), fun l z => by cases z⟩⟩
  | str n =>
    obtain ⟨d, e, _, e2, e3⟩ := data_of hr (Nat.succ_ne_zero _)
    obtain ⟨rfl, _⟩ := uD_str e
    exact ⟨_, e, by omega, .inl ⟨rfl, (by intro z; cases z), fun l z => by cases z⟩⟩
  | tup d s =>
    cases d with
    | zero => exact absurd rfl h
    | succ d =>
      obtain ⟨dd, e, _, e2, e3⟩ := data_of hr (Nat.succ_ne_zero _)
      obtain ⟨ds, rfl, e4⟩ := uD_tup e
      refine ⟨_, e, by omega, .inr ?_⟩
      cases s with
      | cons a b => obtain ⟨z, l, rfl, _⟩ := uL_cons e4; exact ⟨rfl, z, l, rfl⟩
      | _ => exact absurd rfl h
  | _ => exact absurd rfl h
/-- what is put in by its key -/
theorem insK_one {r : Rf} {H : Hp} {L : List KB} {x y : U} {kv xv : V} {f : U → VR} {w : U} {h' : VH} (hL : ∀ b ∈ L, uD b.ku = some b.d) (hr : Rp r H x kv) (e : insK (spB L) x y f = .one w h') :
    ∃ d, uD x = some d ∧ d.depth ≤ 50 ∧ ((srt1 x = 1 ∧ d ≠ .none ∧ ∀ l, d ≠ .tuple l) ∨ (srt1 x = 2 ∧ ∃ z l, d = .tuple (z :: l))) ∧ PySem.W.alike d d = true ∧ (∀ b ∈ L, PySem.W.alike d b.d = true ∧ PySem.W.alike b.d d = true) ∧
      (∀ b l, L = b :: l → srt1 b.ku = srt1 x) ∧ f (spB (putIn leB ⟨x, y, d, xv⟩ L)) = .one w h' := by
  have e : (Bool.rec (.bad 43) (insC (spB L) x y f) (srtOk (spB L) x) : VR) = .one w h' := e
  cases hs : srtOk (spB L) x with
  | false => rw [hs] at e; cases e
  | true =>
    rw [hs] at e
    have e0 : srtOk (spB L) x = (Nat.rec false (fun m _ => Bool.rec false (Bool.rec false ((spB L).cs true (fun k _ => Nat.beq (srt1 k) (Nat.succ m))) (alU x x)) (alS (spB L) x)) (srt1 x) : Bool) := rfl
    rw [e0] at hs
    cases hk : srt1 x with
    | zero => rw [hk] at hs; cases hs
    | succ m =>
      rw [hk] at hs
      obtain ⟨d, h1, h2, h3⟩ := srt1_cases hr (by rw [hk]; exact Nat.succ_ne_zero _)
      have hs : (Bool.rec false (Bool.rec false ((spB L).cs true (fun k _ => Nat.beq (srt1 k) (Nat.succ m))) (alU x x)) (alS (spB L) x) : Bool) = true := hs
      cases ha : alS (spB L) x with
      | false => rw [ha] at hs; cases hs
      | true =>
        cases hx : alU x x with
        | false => rw [ha, hx] at hs; cases hs
        | true =>
          rw [ha, hx] at hs
          have al := alS_ok h1 hL ha
          refine ⟨d, h1, h2, by rw [← hk]; exact h3, by rw [← (alU_eq x).1 d x d h1 h1]; exact hx, al, fun b l el => ?_, insC_one h1 (fun b hb => ⟨hL b hb, (al b hb).1⟩) e⟩
          subst el
          exact nat_beq_iff.mp hs
theorem dvals_spB {r : Rf} {H : Hp} : ∀ {L : List KB}, (∀ b ∈ L, Rp r H b.au b.xv) → RpL r H (dvals (spB L)) (L.map (·.xv))
  | [], _ => rfl
  | b :: l, h => by
    show RpL r H (.cons b.au (dvals (spB l))) (b.xv :: l.map (·.xv))
    exact ⟨b.xv, l.map (·.xv), rfl, h b (List.mem_cons_self ..), dvals_spB fun c hc => h c (List.mem_cons_of_mem _ hc)⟩
theorem putAll_mem {β : Type} {le : β → β → Bool} {z : β} : ∀ {l acc : List β}, z ∈ putAll le acc l → z ∈ acc ∨ z ∈ l
  | [], acc, h => .inl h
  | x :: l, acc, h => by
    unfold putAll at h
    rcases putAll_mem h with e | e
    · rcases putIn_mem e with e | e
      · exact .inr (by rw [e]; exact List.mem_cons_self ..)
      · exact .inl e
    · exact .inr (List.mem_cons_of_mem _ e)
theorem putAll_snoc {β : Type} {le : β → β → Bool} {x : β} : ∀ {l acc : List β}, putAll le acc (l ++ [x]) = putIn le x (putAll le acc l)
  | [], acc => rfl
  | y :: l, acc => by
    show putAll le (putIn le y acc) (l ++ [x]) = putIn le x (putAll le (putIn le y acc) l)
    exact putAll_snoc
theorem vals_each {xv : KB → V} : ∀ {bs : List KB} {vs : List Value}, Vals (bs.map xv) vs → PySem.W.EachIs (fun v b => RelV (xv b) v) vs bs
  | [], _, h => by cases h; exact .nil
  | b :: l, _, h => by
    cases h with
    | cons h1 h2 => exact .cons h1 (vals_each h2)
theorem each_vals {xv : KB → V} : ∀ {bs : List KB} {vs : List Value}, PySem.W.EachIs (fun v b => RelV (xv b) v) vs bs → Vals (bs.map xv) vs
  | _, _, .nil => .nil
  | _, _, .cons h t => .cons h (each_vals t)
/-- the context of what a built-in calls two levels down -/
abbrev in2 (X : Cx) : Cx := { X with A := X.A.in1.in1, xe := fun _ _ => False }
section
variable {X : Cx} {pins : List (Addr × Obj)} {σ : L2.St} {H : Hp} {s : Shared}
theorem in2_inv (I : Inv X pins σ H s) : Inv (in2 X) pins σ H s :=
  ⟨⟨I.ok.mod, I.ok.kind, I.ok.glob, I.ok.blt, I.ok.above, I.ok.inj, I.ok.has, I.ok.cab, I.ok.hd, I.ok.frames, I.ok.stk, I.ok.exf, I.ok.bs, I.ok.bsz, I.ok.noex, I.ok.exfs, I.ok.funs, I.ok.frf⟩, I.os, I.bare, I.base, I.loc, I.cell, I.free, I.freeC, I.pin, I.hok, I.len⟩
theorem out2_inv (ok : X.Ok) (I : Inv (in2 X) pins σ H s) : Inv X pins σ H s := ⟨ok, I.os, I.bare, I.base, I.loc, I.cell, I.free, I.freeC, I.pin, I.hok, I.len⟩
end
end
end VI
namespace VI
open PySem PySem.Spec PyProof.Rows L2
noncomputable section
theorem sortK_cons (cf : U → VH → VR) (a t acc : U) (h : VH) : sortK cf (.cons a t) acc h = VR.bind (cf (.cons a .nil) h) (fun k h => insK acc k a (fun acc => sortK cf t acc h)) := rfl
/-- one kind of keys -/
def KBs (bs : List KB) : Prop := (∀ b ∈ bs, uD b.ku = some b.d ∧ b.d.depth ≤ 50) ∧ (∀ b ∈ bs, ∀ c ∈ bs, PySem.W.alike b.d c.d = true) ∧
  ((∀ b ∈ bs, srt1 b.ku = 1 ∧ b.d ≠ .none ∧ ∀ l, b.d ≠ .tuple l) ∨ ∀ b ∈ bs, srt1 b.ku = 2 ∧ ∃ z l, b.d = .tuple (z :: l))
theorem KBs.snoc {bs : List KB} {B : KB} (h : KBs bs) (h1 : uD B.ku = some B.d) (h2 : B.d.depth ≤ 50) (h3 : (srt1 B.ku = 1 ∧ B.d ≠ .none ∧ ∀ l, B.d ≠ .tuple l) ∨ (srt1 B.ku = 2 ∧ ∃ z l, B.d = .tuple (z :: l)))
    (h4 : PySem.W.alike B.d B.d = true) (h5 : ∀ b ∈ bs, PySem.W.alike B.d b.d = true ∧ PySem.W.alike b.d B.d = true) (h6 : ∀ b ∈ bs, srt1 b.ku = srt1 B.ku) : KBs (bs ++ [B]) := by
  have mem : ∀ {b}, b ∈ bs ++ [B] → b ∈ bs ∨ b = B := fun hb => (List.mem_append.mp hb).imp_right List.mem_singleton.mp
  refine ⟨fun b hb => ?_, fun b hb c hc => ?_, ?_⟩
  · rcases mem hb with z | rfl
    · exact h.1 b z
    · exact ⟨h1, h2⟩
  · rcases mem hb with z | rfl
    · rcases mem hc with y | rfl
      · exact h.2.1 b z c y
      · exact (h5 b z).2
    · rcases mem hc with y | rfl
      · exact (h5 c y).1
      · exact h4
  · rcases h3 with h3 | h3
    · refine .inl fun b hb => ?_
      rcases mem hb with z | rfl
      · rcases h.2.2 with g | g
        · exact g b z
        · have e := (g b z).1.symm.trans ((h6 b z).trans h3.1)
          cases e
      · exact h3
    · refine .inr fun b hb => ?_
      rcases mem hb with z | rfl
      · rcases h.2.2 with g | g
        · have e := (g b z).1.symm.trans ((h6 b z).trans h3.1)
          cases e
        · exact g b z
      · exact h3
theorem KBs.nil : KBs [] := ⟨fun _ h => (nomatch h), fun _ h => (nomatch h), .inl fun _ h => (nomatch h)⟩
theorem putAll_perm {β : Type} {le : β → β → Bool} (t : PySem.W.TotalLe le) {z : β} {bs : List β} (h : z ∈ bs) : z ∈ putAll le [] bs := by
  rw [putAll_sort t]
  exact (List.mergeSort_perm bs le).mem_iff.mpr h
/-- one more is put in -/
theorem KBs.put {r : Rf} {H : Hp} {bs : List KB} {x y : U} {kv xv : V} {f : U → VR} {w : U} {h' : VH} (hb : KBs bs) (hr : Rp r H x kv) (e : insK (spB (putAll leB [] bs)) x y f = .one w h') :
    ∃ d, uD x = some d ∧ KBs (bs ++ [⟨x, y, d, xv⟩]) ∧ f (spB (putAll leB [] (bs ++ [⟨x, y, d, xv⟩]))) = .one w h' := by
  have back : ∀ b ∈ putAll leB [] bs, b ∈ bs := fun b hm => (putAll_mem hm).resolve_left (by intro z; cases z)
  obtain ⟨d, h1, h2, h3, h4, h5, h6, h7⟩ := insK_one (xv := xv) (fun b hm => (hb.1 b (back b hm)).1) hr e
  refine ⟨d, h1, hb.snoc h1 h2 h3 h4 (fun b hm => h5 b (putAll_perm leB_total hm)) fun b hm => ?_, by rw [putAll_snoc]; exact h7⟩
  -- the first tells the kind
  have hp := putAll_perm leB_total hm
  cases hL : putAll leB [] bs with
  | nil => rw [hL] at hp; cases hp
  | cons c l =>
    have e1 := h6 c l hL
    have hc : c ∈ bs := back c (by rw [hL]; exact List.mem_cons_self ..)
    rw [← e1]
    rcases hb.2.2 with g | g
    · rw [(g b hm).1, (g c hc).1]
    · rw [(g b hm).1, (g c hc).1]
theorem KBs.alike {bs : List KB} (h : KBs bs) : PySem.W.AllAlike (bs.map (·.d)) := by
  intro d hd e he
  obtain ⟨b, hb, rfl⟩ := List.mem_map.mp hd
  obtain ⟨c, hc, rfl⟩ := List.mem_map.mp he
  exact h.2.1 b hb c hc
theorem KBs.sortable {bs : List KB} (h : KBs bs) : PySem.W.Sortable (bs.map (·.d)) := by
  rcases h.2.2 with g | g
  · refine .inr fun d hd => ?_
    obtain ⟨b, hb, rfl⟩ := List.mem_map.mp hd
    exact (g b hb).2
  · refine .inl fun d hd => ?_
    obtain ⟨b, hb, rfl⟩ := List.mem_map.mp hd
    exact (g b hb).2
/-- the sorted list, as a value -/
theorem sorted_mkL {r : Rf} {H : Hp} {bs : List KB} {a : Addr} {o : Obj} (hx : ∀ b ∈ bs, Rp r H b.au b.xv) (hH : H a = some (.frz o (.lst ((putAll leB [] bs).map (·.xv))))) : Rp r H (mkL (dvals (spB (putAll leB [] bs)))) (.ref a) := by
  refine rp_mkL (dvals_spB fun b hb => hx b ((putAll_mem hb).resolve_left (by intro z; cases z))) hH
end
end VI
namespace VI
open PySem PySem.Spec PyProof.Rows L2
noncomputable section
theorem eachIs_map {α β γ : Type} {R : α → γ → Prop} (f : β → γ) : ∀ {as : List α} {bs : List β}, PySem.W.EachIs (fun a b => R a (f b)) as bs → PySem.W.EachIs R as (bs.map f)
  | _, _, .nil => .nil
  | _, _, .cons h t => .cons h (eachIs_map f t)
/-- the new list gets what is sorted; all else stays -/
theorem sort_done {C : Ct} {X : Cx} {pins : List (Addr × Obj)} {σ : L2.St} {r r' : Rf} {H H' : Hp} {s : Shared} {a kS : Addr} {g : Heap} {tk c : Nat} {bs : List KB} {out : List Value} {Q : VK} {h' : VH}
    (I : Inv X pins σ H' s) (fa : FpOk X pins H' a) (fk : FpOk X pins H' kS) (kp : ∀ b o, b ≠ a → b ≠ kS → s.heap.get? b = some o → g.get? b = some o) (ha : g.get? a = some (seqObj "list" out.toArray c)) (hz : bs.length ≤ sizeLine)
    (e : PySem.W.EachIs (fun v b => RelV b.xv v) out (putAll leB [] bs)) (l : r.Le r') (k : Kp r H r' H') (rh : RH C r' H' h') (hx : ∀ b ∈ bs, Rp r' H' b.au b.xv) (q : Fo C r H (mkL (dvals (spB (putAll leB [] bs)))) h' Q) :
    EP X pins σ Q (.ref a) { s with heap := g, toks := tk } := by
  have I1 : Inv X pins σ H' { s with heap := g, toks := tk } := I.turnedL (ch := [kS, a]) (fun b o hb e => kp b o (fun z => hb (by simp [z])) (fun z => hb (by simp [z])) e) fun b hb => by
    rcases List.mem_cons.mp hb with z | z
    · rw [z]; exact fk
    · rw [List.mem_singleton.mp z]; exact fa
  have hl : ((putAll leB [] bs).map (·.xv)).length ≤ sizeLine := by
    rw [List.length_map, putAll_sort leB_total, List.length_mergeSort]; exact hz
  have I2 : Inv X pins σ (upd H' a (.lst ((putAll leB [] bs).map (·.xv)))) { s with heap := g, toks := tk } := I1.take (h' := g) (t' := tk) (fun _ _ _ e => e) fa ⟨hl, out, c, each_vals e, ha⟩
  obtain ⟨o, I3⟩ := I2.frz (a := a) upd_same (.inl ⟨_, rfl⟩)
  rw [upd_upd] at I3
  have n : ∀ b o2, H' b = some o2 → upd H' a (.frz o (.lst ((putAll leB [] bs).map (·.xv)))) b = some o2 := new_keeps fa.1
  refine ⟨.ref a, _, I3, rfl, q r' _ _ l (k.trans (Kp.more n)) (rh.more n) (sorted_mkL (fun b hb => (hx b hb).mono (Rf.Le.refl r') (Kp.more n)) upd_same)⟩
section
variable {C : Ct} {X : Cx} {pins : List (Addr × Obj)} {σ : L2.St} {r : Rf} {H : Hp} {s : Shared} {h h' : VH} {sp u : U} {xs : List V} {vs : List Value} {Q : VK} {a : Addr} {n : Nat} {cf : U → VH → VR} {F : Value} {E : Value → Shared → Prop}
/-- where the keys' fold stands -/
def KS (C : Ct) (X : Cx) (pins : List (Addr × Obj)) (σ : L2.St) (r : Rf) (H : Hp) (cf : U → VH → VR) (u : U) (h' : VH) (xs : List V) (a kS : Addr) (e1 j : Nat) (s' : Shared) : Prop :=
  ∃ (r' : Rf) (H' : Hp) (h1 : VH) (t : U) (bs : List KB) (kA : Array Value) (e : Nat), Inv (in2 X) (pins ++ [(kS, seqObj "list" kA e), (a, seqObj "list" #[] e1)]) σ H' s' ∧ r.Le r' ∧ Kp r H r' H' ∧ RH C r' H' h1 ∧ RpL r' H' t (xs.drop j) ∧
    sortK cf t (spB (putAll leB [] bs)) h1 = .one u h' ∧ bs.map (·.xv) = xs.take j ∧ KBs bs ∧ (∀ b ∈ bs, Rp r' H' b.au b.xv) ∧ PySem.W.EachIs (fun v (b : KB) => ∃ kv, RelV kv v ∧ Rp r' H' b.ku kv) kA.toList bs
theorem ks_step {kS : Addr} {e1 j : Nat} {x : Value} {s' : Shared} (hc : CallR (in2 X) F (rC C cf)) (rv : Vals xs vs) (hz : vs.length ≤ sizeLine) (fk : ∀ H', H' kS = none → FpOk X pins H' kS) (fa : ∀ H', H' a = none → FpOk X pins H' a) (hka : kS ≠ a)
    (hx : vs[j]? = some x) (K : KS C X pins σ r H cf u h' xs a kS e1 j s') :
    wpAny (model X.prog X.w) X.A.in1.in1 (PySem.call F [x]) (fun v s2 => ∃ kA e, s2.heap.get? kS = some (seqObj "list" kA e) ∧ kA.size ≤ sizeLine ∧ KS C X pins σ r H cf u h' xs a kS e1 (j + 1) { s2 with heap := s2.heap.update kS (Obj.mapSeq (·.push v)) }) (fun _ _ => False) s' := by
  obtain ⟨r', H', h1, t, bs, kA, e, I, l, k, rh, ht, es, em, hb, hxs, ek⟩ := K
  have hj : j < vs.length := (List.getElem?_eq_some_iff.mp hx).1
  have hjx : j < xs.length := by rw [rv.length]; exact hj
  obtain ⟨x0, hx0⟩ : ∃ x0, xs[j]? = some x0 := ⟨_, List.getElem?_eq_getElem hjx⟩
  obtain ⟨x', e1', rx⟩ := rv.get hx0
  rw [hx] at e1'; cases e1'
  have hd : xs.drop j = x0 :: xs.drop (j + 1) := by
    rw [List.drop_eq_getElem_cons hjx]
    rw [List.getElem?_eq_getElem hjx] at hx0
    cases hx0; rfl
  rw [hd] at ht
  cases t with
  | cons a0 t' =>
    obtain ⟨y, ys, ey, p1, p2⟩ := (show ∃ y ys, x0 :: xs.drop (j + 1) = y :: ys ∧ Rp r' H' a0 y ∧ RpL r' H' t' ys from ht)
    cases ey
    rw [sortK_cons] at es
    obtain ⟨ku, h2, es1, es2⟩ := bind_one es
    have hsz : kA.size = j := by
      have h1 := ek.length
      have h2 := congrArg List.length em
      rw [List.length_map, List.length_take] at h2
      rw [Array.length_toList] at h1
      omega
    refine wpAny_mono (hc _ s' σ H' [x0] [x] (fun kv H2 => ∃ r2, r'.Le r2 ∧ Kp r' H' r2 H2 ∧ RH C r2 H2 h2 ∧ Rp r2 H2 ku kv) I (.cons rx .nil) ⟨r', h1, .cons a0 .nil, ku, h2, rh, ⟨x0, [], rfl, p1, rfl⟩, es1, fun r2 H2 v l2 k2 rh2 q2 => ⟨r2, l2, k2, rh2, q2⟩⟩) (fun v s2 he => ?_) fun _ _ hF => False.elim hF
    obtain ⟨kv, H2, I2, rkv, r2, l2, k2, rh2, q2⟩ := he
    obtain ⟨g1, g2, g3, g4, g5⟩ := I2.pin (kS, seqObj "list" kA e) (by simp)
    obtain ⟨f1, f2, f3, f4, f5⟩ := I2.pin (a, seqObj "list" #[] e1) (by simp)
    have fk2 := fk H2 g2
    have sb := Heap.SameBut.update s2.heap kS (Obj.mapSeq (·.push v))
    obtain ⟨c2, hc2⟩ : ∃ c2, (s2.heap.update kS (Obj.mapSeq (·.push v))).get? kS = some (seqObj "list" (kA.push v) c2) := ⟨_, get?_update_seq g1 (·.push v)⟩
    have hzk : kA.size ≤ sizeLine := by omega
    refine ⟨kA, e, g1, hzk, ?_⟩
    have I3 : Inv (in2 X) pins σ H2 { s2 with heap := s2.heap.update kS (Obj.mapSeq (·.push v)) } := (I2.unpinned).turned (it := kS) (t' := s2.toks) (fun b o hb e => (sb.2 b hb).trans e) g2 fk2.2.1 fk2.2.2.2.1 fk2.2.2.2.2.1 fk2.2.2.2.2.2
    obtain ⟨d, ud, kb, es3⟩ := hb.put (xv := x0) q2 es2
    refine ⟨r2, H2, h2, t', bs ++ [⟨ku, a0, d, x0⟩], kA.push v, c2, I3.pins_of fun p hp => ?_, l.trans l2, k.trans k2, rh2, p2.mono l2 k2, es3, ?_, kb, fun b hm => ?_, ?_⟩
    · rcases List.mem_append.mp hp with z | z
      · exact I3.pin p (List.mem_append_right _ z)
      · rcases List.mem_cons.mp z with z | z
        · rw [z]; exact ⟨hc2, g2, g3, g4, fun v z => by cases z⟩
        · rw [List.mem_singleton.mp z]; exact ⟨(sb.2 a hka.symm).trans f1, f2, f3, f4, fun v z => by cases z⟩
    · rw [List.map_append, em, List.take_add_one, hx0]; rfl
    · rcases List.mem_append.mp hm with z | z
      · exact (hxs b z).mono l2 k2
      · rw [List.mem_singleton.mp z]; exact p1.mono l2 k2
    · rw [Array.toList_push]
      exact PySem.W.each_snoc ⟨kv, rkv, q2⟩ (ek.mono fun v b ⟨kv, z1, z2⟩ => ⟨kv, z1, z2.mono l2 k2⟩)
  | nil => exact False.elim (by cases (show x0 :: xs.drop (j + 1) = [] from ht))
  | _ => exact False.elim ht
theorem ks_rest {kS : Addr} {e1 : Nat} (ok : X.Ok) (hc : CallR (in2 X) F (rC C cf)) (rv : Vals xs vs) (hz : vs.length ≤ sizeLine) (hu : X.A.units + 60 < cLine) (fk : ∀ H', H' kS = none → FpOk X pins H' kS) (fa : ∀ H', H' a = none → FpOk X pins H' a) (hka : kS ≠ a)
    (I : Inv (in2 X) (pins ++ [(kS, seqObj "list" #[] 0), (a, seqObj "list" #[] e1)]) σ H s) (rh : RH C r H h) (hs : RpL r H sp xs) (e : sortK cf sp .nil h = .one u h') (q : Fo C r H u h' Q) :
    wpAny (model X.prog X.w) X.A.in1.in1 (ksk_rest a F false vs.toArray e1 (.ref kS)) (fun fin s' => fin = .done (.ret .none) ∧ EP X pins σ Q (.ref a) s') E s := by
  unfold ksk_rest
  refine wpAny_bind (wpAny_rule ?_)
  first
    | rw [List.forIn_toArray]
    | (rw [← Array.forIn_toList]; simp only [List.toList_toArray])
    | rw [← Array.forIn_toList]
  refine wpAny_bind (ksk_fold (fun j s' => KS C X pins σ r H cf u h' xs a kS e1 j s') vs 0 s ⟨r, H, h, sp, [], #[], 0, I, Rf.Le.refl r, Kp.refl H, rh, hs, e, by rw [List.take_zero]; rfl, KBs.nil, fun _ z => (nomatch z), .nil⟩ ?step ?done)
  case step =>
    rintro j x s' hx K
    rw [Nat.zero_add] at K ⊢
    refine wpAny_bind (wpAny_attempt (wpAny_mono (ks_step hc rv hz fk fa hka hx K) (fun v s2 he => ?_) fun _ _ hF => hF.elim))
    obtain ⟨kA, e, g1, g2, K2⟩ := he
    try dsimp only
    refine wpAny_bind (listUpdate_at g1 rfl ?_ g2 (Nat.le_trans (Nat.le_of_eq (Array.size_push ..)) (Nat.succ_le_succ g2)))
    exact wpAny_pure ⟨rfl, K2⟩
  case done =>
    rintro s' ⟨r', H', h1, t, bs, kA, ep, I, l, k, rh, ht, es, em, hb, hxs, ek⟩
    rw [Nat.zero_add] at ht em
    rw [List.drop_of_length_le (by rw [rv.length]; exact Nat.le_refl _)] at ht
    rw [List.take_of_length_le (by rw [rv.length]; exact Nat.le_refl _)] at em
    have ht0 := spine_nil ht
    subst ht0
    cases (show VR.one (mkL (dvals (spB (putAll leB [] bs)))) h1 = .one u h' from es)
    obtain ⟨g1, g2, g3, g4, g5⟩ := I.pin (kS, seqObj "list" kA ep) (by simp)
    obtain ⟨f1, f2, f3, f4, f5⟩ := I.pin (a, seqObj "list" #[] e1) (by simp)
    have hbl : bs.length = vs.length := by rw [← rv.length, ← em, List.length_map]
    have ekl := ek.length
    try dsimp only
    refine wpAny_bind (listItems_at g1 rfl ?_)
    obtain ⟨G, G1, G2⟩ := restrict s'.heap fun b => !decide (b = kS)
    have rd : PySem.W.EachIs (fun v d => ∃ as, Reads s'.heap v d as) kA.toList (bs.map (·.d)) := by
      refine eachIs_map (fun b : KB => b.d) ?_
      refine (PySem.W.each_mem ek).mono fun v b ⟨⟨kv, z1, z2⟩, hm⟩ => ?_
      exact Dp.reads I b.d kv v ((dp_of b.ku).1 kv b.d (hb.1 b hm).1 z2) z1
    have S := PySem.W.SortsAt.data (prog := X.prog) (w := X.w) (A := X.A.in1.in1) (s := s') rd hb.alike hb.sortable fun d hd => by
      obtain ⟨b, hm, rfl⟩ := List.mem_map.mp hd
      have := (hb.1 b hm).2
      show X.A.units + 1 + 1 + b.d.depth < cLine
      omega
    refine PySem.W.keyH_end (h₁ := G) (fun b o hb2 e => ?_) (G2 kS (by simp)) g1 f1 hka S (by rw [← Array.length_toList, ekl, hbl]) hz fun h3 tk c k3 n3 => ⟨rfl, ?_⟩
    · by_cases z : b = kS
      · rw [G2 b (by simp [z])] at e; cases e
      · rw [G1 b (by simp [z])] at e; exact e
    · have ko : PySem.W.KeyedOut false (bs.map (·.d)) vs (PySem.W.sortVals (PySem.W.dataKind s'.heap (bs.map (·.d))) false kA.toList vs) := ⟨s'.heap, kA.toList, hb.alike, rfl, rd⟩
      have out := PySem.W.keyedOut_each (R := fun v (b : KB) => RelV b.xv v) (bs := bs) (fun b : KB => b.d) ko (vals_each (by rw [em]; exact rv))
      have out2 : PySem.W.EachIs (fun v (b : KB) => RelV b.xv v) (PySem.W.sortVals (PySem.W.dataKind s'.heap (bs.map (·.d))) false kA.toList vs) (putAll leB [] bs) := by rw [putAll_sort leB_total]; exact out
      exact sort_done (out2_inv ok I.unpinned) (fa H' f2) (fk H' g2) (fun b o n1 n2 e => k3 b o n1 (by rw [G1 b (by simp [n2])]; exact e)) n3 (by rw [hbl]; exact hz) out2 l k rh hxs q
theorem ks_run (hc : CallR (in2 X) F (rC C cf)) (rv : Vals xs vs) (hz : vs.length ≤ sizeLine) (hu : X.A.units + 60 < cLine) (I : Inv X pins σ H s) (ha : s.heap.get? a = some (seqObj "list" vs.toArray n)) (fa : ∀ H', H' a = none → FpOk X pins H' a) (hn : H a = none)
    (rh : RH C r H h) (hs : RpL r H sp xs) (e : sortK cf sp .nil h = .one u h') (q : Fo C r H u h' Q) :
    wpAny (model X.prog X.w) X.A.in1.in1 (ksk_tree a F false) (fun fin s' => fin = .done (.ret .none) ∧ EP X pins σ Q (.ref a) s') E s := by
  have hlt : a < s.heap.objs.size := Heap.lt_size ha
  obtain ⟨e1, ho1⟩ : ∃ e1, (s.heap.update a (Obj.mapSeq fun _ => (#[] : Array Value))).get? a = some (seqObj "list" #[] e1) := ⟨_, get?_update_seq ha fun _ => #[]⟩
  have sb := Heap.SameBut.update s.heap a (Obj.mapSeq fun _ => (#[] : Array Value))
  unfold ksk_tree
  refine wpAny_bind (listItems_at ha rfl ?_)
  refine wpAny_bind (listUpdate_at ha rfl ?_ (by rw [List.size_toArray]; exact hz) (Nat.zero_le _))
  refine wpAny_bind (seqEpoch_at ho1 rfl ?_)
  refine wpAny_bind (wpAny_newTuple ?_ (by show vs.length ≤ _; exact hz))
  refine wpAny_bind (wpAny_newList ?_ (Nat.zero_le _))
  refine wpAny_holding ?_
  have hsz : s.heap.objs.size ≤ ((s.heap.update a (Obj.mapSeq fun _ => (#[] : Array Value))).push (seqObj "tuple" vs.toArray 0)).objs.size := by rw [size_push', Heap.size_update]; exact Nat.le_succ _
  have hka : ((s.heap.update a (Obj.mapSeq fun _ => (#[] : Array Value))).push (seqObj "tuple" vs.toArray 0)).objs.size ≠ a := fun z => by rw [z] at hsz; exact absurd hlt (Nat.not_lt.mpr hsz)
  have fk : ∀ H' : Hp, H' ((s.heap.update a (Obj.mapSeq fun _ => (#[] : Array Value))).push (seqObj "tuple" vs.toArray 0)).objs.size = none → FpOk X pins H' ((s.heap.update a (Obj.mapSeq fun _ => (#[] : Array Value))).push (seqObj "tuple" vs.toArray 0)).objs.size := fun H' z => I.fpOk hsz z
  have hkn := I.hok.fresh hsz
  have I2 : Inv X pins σ H { s with heap := ((s.heap.update a (Obj.mapSeq fun _ => (#[] : Array Value))).push (seqObj "tuple" vs.toArray 0)).push (seqObj "list" #[] 0) } :=
    I.turnedL (ch := [a]) (t' := s.toks) (fun b o hb e => Heap.get?_push_of_some _ (Heap.get?_push_of_some _ ((sb.2 b (fun z => hb (by simp [z]))).trans e))) fun b hb => by rw [List.mem_singleton.mp hb]; exact fa H hn
  refine ks_rest (kS := ((s.heap.update a (Obj.mapSeq fun _ => (#[] : Array Value))).push (seqObj "tuple" vs.toArray 0)).objs.size) (s := { s with heap := ((s.heap.update a (Obj.mapSeq fun _ => (#[] : Array Value))).push (seqObj "tuple" vs.toArray 0)).push (seqObj "list" #[] 0) })
    I.ok hc rv hz hu fk fa hka (in2_inv (I2.pins_of fun p hp => ?_)) rh hs e q
  rcases List.mem_append.mp hp with z | z
  · exact I2.pin p (List.mem_append_right _ z)
  · rcases List.mem_cons.mp z with z | z
    · rw [z]; exact ⟨Heap.get?_push_size _ rfl, hkn, (fk H hkn).2.1, (fk H hkn).2.2.1, fun v z => by cases z⟩
    · rw [List.mem_singleton.mp z]; exact ⟨Heap.get?_push_of_some _ (Heap.get?_push_of_some _ ho1), hn, (fa H hn).2.1, (fa H hn).2.2.1, fun v z => by cases z⟩
end
end
end VI
namespace VI
open PySem PySem.Spec PyProof.Rows L2
noncomputable section
/-- what `collect` gives: the items of xs, and nothing lost -/
def Coll (P : Program) (w : World) (A : Around) (v : Value) (xs : List V) (s : Shared) : Prop := ∀ (R : List Value → Shared → Prop) (E : Value → Shared → Prop),
  (∀ h' tk us, (∀ b o, s.heap.get? b = some o → h'.get? b = some o) → Vals xs us → R us { s with heap := h', toks := tk }) → wpAny (model P w) A (PySem.collect v) R E s
theorem sorted_src {P : Program} {w : World} {A : Around} {E : Value → Shared → Prop} {s : Shared} {v : Value} {kw : List (Str × Value)} {Q : Value → Shared → Prop} {xs : List V} (hc : Coll P w A.in1 v xs s) (hL : xs.length ≤ sizeLine) (ha1 : argsOk "sorted" ⟨[v], kw⟩) (ha2 : ∀ x, argsOk "list.sort" ⟨[.ref x], kw⟩)
    (body : ∀ (h' : Heap) (tk : Nat) (us : List Value) (E' : Value → Shared → Prop), (∀ b o, s.heap.get? b = some o → h'.get? b = some o) → Vals xs us →
      wpAny (model P w) A.in1.in1 (Builtin.«list.sort» ⟨[.ref h'.objs.size], kw⟩) (fun f s' => f = .done (.ret .none) ∧ Q (.ref h'.objs.size) s') E' { s with heap := h'.push (seqObj "list" us.toArray 0), toks := tk }) :
    wpAny (model P w) A (PySem.call (.builtin "sorted") [v] kw) Q E s := by
  refine call_function_entry_kw kind_sorted plain_sorted entry_sorted ha1 ?_
  unfold Builtin.«sorted»
  refine wpAny_bind (m := checkCount "sorted" 1 1 _) (wpAny_pure ?_)
  refine wpAny_bind (hc _ _ fun h' tk us kp rv => ?_)
  refine wpAny_bind (wpAny_newList ?_ (by rw [← rv.length]; exact hL))
  refine wpAny_bind (wpAny_holding (wpAny_call_entry_kw slot_list_sort ⟨_, Heap.get?_push_size _ rfl, rfl⟩ entry_list_sort ?_ (ha2 _)))
  refine wpAny_mono (body h' tk us _ kp rv) (fun f s' hf => ?_) fun _ _ e => e
  obtain ⟨rfl, hq⟩ := hf
  exact ⟨_, rfl, wpAny_pure ⟨_, rfl, hq⟩⟩
section
variable {C : Ct} {X : Cx} {k : Nat} {p : Prog} {call : Nat → U → VH → VR} {pins : List (Addr × Obj)} {σ : L2.St} {r : Rf} {H : Hp} {s : Shared} {A : Around}
theorem coll_lst {a : Addr} {xs : List V} (I : Inv X pins σ H s) (h : Rd H a (.lst xs)) : Coll X.prog X.w A (.ref a) xs s := fun R E q => by
  obtain ⟨hz, its, n, rv, ha⟩ := h.ok I.hok
  refine collect_list (vs := its) ⟨_, ha, rfl, n, rfl⟩ (q _ s.toks its (fun b o e => ?_) rv) (by rw [← rv.length]; exact hz)
  have hlt := Heap.lt_size e
  rw [Heap.get?_update_ne _ _ _ _ (Nat.ne_of_lt hlt)]
  exact Heap.get?_push_of_some _ e
theorem items_key {xs : List V} {es : List DictEntry} (rv : Vals xs (es.map (·.key))) {acc : List Value} (hl : acc.length = es.length) (h : ∀ j v, acc[j]? = some v → ∃ hi : j < es.length, v = es[j].key) : Vals xs acc := by
  have e : acc = es.map (·.key) := by
    refine List.ext_getElem? fun i => ?_
    rw [List.getElem?_map]
    cases hi : acc[i]? with
    | none =>
      have : es.length ≤ i := by rw [← hl]; exact List.getElem?_eq_none_iff.mp hi
      rw [List.getElem?_eq_none_iff.mpr this]; rfl
    | some v =>
      obtain ⟨h1, rfl⟩ := h i v hi
      rw [List.getElem?_eq_getElem h1]; rfl
  rw [e]; exact rv
theorem coll_dct (hh : A.handled = none) {a : Addr} {s0 : U} {t0 : Nat} (I : Inv X pins σ H s) (hw : r.w = X.w) (d : DRep r H a s0) : ∃ ks, RpL r H (dkeys s0) ks ∧ ks.length ≤ sizeLine ∧ Coll X.prog X.w A (.ref a) ks s := by
  obtain ⟨hm, hz, es, ep, ks, g1, g2, g3, g4⟩ := dv_raw (P := X.prog) I.hok hw d
  have hl : ks.length = es.size := by have := g4.length; rw [List.length_map, Array.length_toList] at this; exact this
  refine ⟨ks, g3, by rw [hl, g2]; exact hz, fun R E q => ?_⟩
  refine PySem.W.kdu_collect (PySem.KdlSrc.rawDict hm) hh g1 (by rw [g2]; exact hz) fun h' tk acc kp it => q h' tk acc.toList kp (items_key g4 (by rw [Array.length_toList, Array.length_toList]; exact it.1) fun j v hj => ?_)
  obtain ⟨hi, e⟩ := it.2 j v (by rw [← Array.getElem?_toList]; exact hj)
  exact ⟨by rw [Array.length_toList]; exact hi, by rw [e, Array.getElem_toList]⟩
/-- what is sorted -/
theorem sort_src {A : Around} {x u : U} {v : V} {val : Value} {h h' : VH} {go : U → VR} {n : Nat} (hh : A.handled = none) (I : Inv X pins σ H s) (hw : r.w = X.w) (rh : RH C r H h) (hv : Rp r H x v) (rx : RelV v val) (e : x.dict h (x.list h (.bad n) go) (fun s => go (dkeys s)) = .one u h') :
    ∃ sp xs, go sp = .one u h' ∧ RpL r H sp xs ∧ xs.length ≤ sizeLine ∧ Coll X.prog X.w A val xs s := by
  rcases dict_cases x h (x.list h (.bad n) go) (fun s => go (dkeys s)) with ⟨s0, d, e'⟩ | ⟨_, e'⟩
  · rw [e'] at e
    obtain ⟨a, rfl, dr⟩ := drep_of rh hv d
    cases rx
    obtain ⟨ks, g1, g2, g3⟩ := coll_dct (A := A) (t0 := 0) hh I hw dr
    exact ⟨_, ks, e, g1, g2, g3⟩
  · rw [e'] at e
    obtain ⟨t, ht, e⟩ := list_one' e
    obtain ⟨a, xs, rfl, g1, g2⟩ := list_rd rh hv ht
    cases rx
    exact ⟨t, xs, e, g2, (g1.ok I.hok).1, coll_lst I g1⟩
/-- sorted(x, key=f), f a def of the module -/
def rKey (C : Ct) (call : Nat → U → VH → VR) (g : Nat) : List V → List V → Hp → VK → Prop := fun vs zs H Q => ∃ B, zs = [.ref B] ∧ C.G g = some B ∧ rC C (fun s h => bcU (callV call) 4 (s.app (.cons (.gf g) .nil)) h) vs H Q
theorem b_sortK {g : Nat} (xc : XC C X k) (hc : ∀ B, C.G g = some B → CallR (in2 X) (.ref B) (rC C (call g))) : CallRK X (.builtin "sorted") [Str.ofString "key"] (rKey C call g) := by
  intro pins s σ H vs zs us ws Q I rv rz ⟨B, ez, hB, r, h, s0, u, h', rh, hs, e, q⟩
  subst ez
  obtain ⟨wb, rfl, rb⟩ := rz.one
  cases rb
  obtain ⟨x, v, rfl, e, rfl, hv⟩ : ∃ x v, s0 = .cons x .nil ∧ bcU (callV call) 4 (.cons x (.cons (.gf g) .nil)) h = .one u h' ∧ vs = [v] ∧ Rp r H x v := by
    cases s0 with
    | cons a t =>
      obtain ⟨v, ws, rfl, h1, h2⟩ := (show ∃ y ys, vs = y :: ys ∧ Rp r H a y ∧ RpL r H t ys from hs)
      cases t with
      | nil => cases (show ws = [] from h2); exact ⟨a, v, rfl, e, rfl, h1⟩
      | cons b t2 =>
        exfalso
        cases t2 with
        | cons _ _ => cases e
        | nil => cases e
        | _ => exact (by obtain ⟨_, _, _, _, z⟩ := (show ∃ y ys, ws = y :: ys ∧ Rp r H b y ∧ RpL r H _ ys from h2); exact z)
      | _ => exact False.elim h2
    | nil => exfalso; cases e
    | _ => exact False.elim hs
  obtain ⟨uv, rfl, ru⟩ := rv.one
  obtain ⟨sp, xs, e, g1, g2, g3⟩ := sort_src (A := X.A.in1) xc.room.hd I (rh.w.trans xc.w.symm) rh hv ru (go := fun s => few s (sortK (callV call (.gf g)) s .nil h) (.bad 44)) e
  obtain ⟨e, hz⟩ := few_one e (by intro z; cases z)
  refine sorted_src g3 g2 (ksk_s1 _ _) (fun _ => ksk_l1 _ _) fun h2 tk items E' kp rvs => ?_
  have I1 : Inv X pins σ H { s with heap := h2, toks := tk } := I.kept kp
  show wpAny (model X.prog X.w) X.A.in1.in1 (Builtin.«list.sort» ⟨[.ref h2.objs.size], [(Str.ofString "key", .ref B)]⟩) _ _ _
  rw [ksk_t1]
  exact ks_run (cf := call g) (hc B hB) rvs (by rw [← rvs.length]; exact g2) (by have := xc.room.un; omega) (I1.kept (t' := tk) fun b o e => Heap.get?_push_of_some _ e) (Heap.get?_push_size _ rfl) (fun H' z => I1.fpOk (Nat.le_refl _) z) (I1.hok.fresh (Nat.le_refl _)) rh g1 e q
/-- sorted(x, key=f) -/
theorem r_sortK {a : Expr} {ea : VE} {y : Str} {g : Nat} {B : Addr} {pp pos kp kq : Pos} (xc : XC C X k) (hc : ∀ B, C.G g = some B → CallR (in2 X) (.ref B) (rC C (call g))) (hg : Gl X "sorted") (hm : X.mg "sorted" = none) (hg2 : Gl X y) (hm2 : X.mg y = some (.ref B)) (hB : C.G g = some B) (hd : (y == ("__debug__" : Str)) = false := by decide)
    (ha : SE C X a (ev p call ea)) (hs : starEach [a] X.env = [(false, eval a X.env)] := by rfl)
    (he : backTo pos (starEach [a] X.env) = (false, eval a X.env) :: backTo pos (starEach [] X.env) := by rfl) (hpl : (backTo pos (starEach [a] X.env)).any (·.1) = false := by rfl)
    (hall : (backToKw pos (keywordEach [⟨some "key", .Name y kq, kp⟩] X.env)).all (·.1.isSome) = true := by rfl) (hnone : (backToKw pos (keywordEach [⟨some "key", .Name y kq, kp⟩] X.env)).any (·.1.isNone) = false := by rfl) (hks : (backToKw pos (keywordEach [⟨some "key", .Name y kq, kp⟩] X.env)).filterMap (·.1) = [Str.ofString "key"] := by rfl) :
    SE C X (.Call (.Name "sorted" pp) [a] [⟨some "key", .Name y kq, kp⟩] pos) (ev p call (.bc 4 (.cons ea (.cons (.cst (.gf g)) .nil)))) := fun c => by
  have hk : PK X [⟨some "key", .Name y kq, kp⟩] (tCons (tC (.ref B)) tNil) := pk_cons (pe_glob (v := .ref B) hg2 hm2 rfl hd) pk_nil
  refine (pe_callBK (b_sortK xc hc) hg hm rfl ((l_cons ha l_nil hs) c) hk (by decide) (by decide) he hpl hall hnone hks).weak fun σ H Q ⟨r, h, s, u, h', rh, rs, e, q⟩ => ?_
  obtain ⟨x, h1, e1, e⟩ := bind_one e
  obtain ⟨x1, h2, e2, e1⟩ := bind_one e1
  cases (show VR.one (.cons x1 (.cons (.gf g) .nil)) h2 = .one x h1 from e1)
  refine ⟨r, h, s, .cons x1 .nil, h1, rh, rs, ?_, fun r1 H1 vs l k rh1 p1 => ⟨B, rfl, hB, r1, h1, .cons x1 .nil, u, h', rh1, p1, e, fun r2 H2 v l2 k2 rh2 p2 => q r2 H2 v (l.trans l2) (k.trans k2) rh2 p2⟩⟩
  exact congrArg (fun r => VR.bind r fun x h => VR.bind (VR.one .nil h) fun y h => .one (.cons x y) h) e2
end
end
end VI
namespace VI
open PySem PySem.Spec PyProof.Rows L2
noncomputable section
section
variable {C : Ct} {X : Cx} {k : Nat} {cv : U → U → VH → VR}
def sortG (h : VH) (s : U) : U → VR := U.sp (α := U → VR) (fun acc => .one (mkL (dvals acc)) h) (fun a _ ih acc => insK acc a a ih) s
theorem sortG_ok {r : Rf} {H : Hp} {h h' : VH} {u : U} : ∀ {s : U} {xs : List V} {bs : List KB}, RpL r H s xs → KBs bs → (∀ b ∈ bs, Rp r H b.au b.xv ∧ b.ku = b.au) → sortG h s (spB (putAll leB [] bs)) = .one u h' →
    ∃ more, KBs (bs ++ more) ∧ more.map (·.xv) = xs ∧ (∀ b ∈ bs ++ more, Rp r H b.au b.xv ∧ b.ku = b.au) ∧ u = mkL (dvals (spB (putAll leB [] (bs ++ more)))) ∧ h' = h
  | .nil, xs, bs, hs, kb, hx, e => by
    cases (show xs = [] from hs)
    cases (show VR.one (mkL (dvals (spB (putAll leB [] bs)))) h = .one u h' from e)
    exact ⟨[], by rw [List.append_nil]; exact kb, rfl, by rw [List.append_nil]; exact hx, by rw [List.append_nil], rfl⟩
  | .cons a t, xs, bs, hs, kb, hx, e => by
    obtain ⟨x, ys, rfl, h1, h2⟩ := (show ∃ x ys, xs = x :: ys ∧ Rp r H a x ∧ RpL r H t ys from hs)
    obtain ⟨d, ud, kb2, e2⟩ := kb.put (xv := x) (f := fun acc => sortG h t acc) h1 e
    obtain ⟨more, g1, g2, g3, g4, g5⟩ := sortG_ok h2 kb2 (fun b hb => by
      rcases List.mem_append.mp hb with z | z
      · exact hx b z
      · rw [List.mem_singleton.mp z]; exact ⟨h1, rfl⟩) e2
    rw [List.append_assoc] at g1 g3 g4
    exact ⟨⟨a, a, d, x⟩ :: more, g1, by rw [List.map_cons, g2], g3, g4, g5⟩
  | .non, _, _, hs, _, _, _ => False.elim hs
  | .bl _, _, _, hs, _, _, _ => False.elim hs
  | .int _, _, _, hs, _, _, _ => False.elim hs
  | .str _, _, _, hs, _, _, _ => False.elim hs
  | .tup _ _, _, _, hs, _, _, _ => False.elim hs
  | .vl _ _, _, _, hs, _, _, _ => False.elim hs
  | .vd _, _, _, hs, _, _, _ => False.elim hs
  | .ref _, _, _, hs, _, _, _ => False.elim hs
  | .gf _, _, _, hs, _, _, _ => False.elim hs
  | .clo _ _, _, _, hs, _, _, _ => False.elim hs
theorem b_sorted (xc : XC C X k) : CallR X (.builtin "sorted") (rC C (bcU cv 3)) := by
  intro pins s σ H vs us Q I rv ⟨r, h, s0, u, h', rh, hs, e, q⟩
  obtain ⟨a, v, e, rfl, hv⟩ := arg1_one hs e
  obtain ⟨t, ht, e⟩ := list_one' (u := a) e
  obtain ⟨a', xs, rfl, g1, g2⟩ := list_rd rh hv ht
  obtain ⟨e, hz⟩ := few_one (f := sortG h t .nil) e (by intro z; cases z)
  obtain ⟨bs, b1, b2, b3, rfl, rfl⟩ := sortG_ok (bs := []) g2 KBs.nil (fun _ z => (nomatch z)) e
  rw [List.nil_append] at b1 b3
  obtain ⟨uv, rfl, ru⟩ := rv.one
  cases ru
  obtain ⟨z, its, n, rvs, ha⟩ := g1.ok I.hok
  have hl : bs.length = xs.length := by rw [← b2, List.length_map]
  have ev0 : PySem.W.EachIs (fun v (b : KB) => RelV b.xv v) its bs := vals_each (xv := fun b => b.xv) (by rw [b2]; exact rvs)
  have er : PySem.W.EachIs (fun v (b : KB) => ∃ as, Reads s.heap v b.d as) its bs := (PySem.W.each_mem ev0).mono fun v b ⟨r1, hm⟩ => by
    have := b3 b hm
    exact Dp.reads I b.d b.xv v ((dp_of b.ku).1 b.xv b.d (b1.1 b hm).1 (by rw [this.2]; exact this.1)) r1
  refine PySem.W.sorted_data (vs := its) (bs := bs) (enc := fun b : KB => b.d) (R := fun v (b : KB) => RelV b.xv v) ⟨_, ha, rfl, n, rfl⟩ ev0 er b1.alike b1.sortable (by rw [hl]; exact z) (fun b hb => ?_) fun out ho eo => ?_
  · have := (b1.1 b hb).2
    have := xc.room.un
    show X.A.units + 2 + b.d.depth < cLine
    omega
  · have eo : PySem.W.EachIs (fun v (b : KB) => RelV b.xv v) out (putAll leB [] bs) := by rw [putAll_sort leB_total]; exact eo
    obtain ⟨c, hc⟩ := sortedAll_at s.heap its out.toArray
    have hfr : H (s.heap.objs.size + 1) = none := I.hok.fresh (Nat.le_succ _)
    have I2 : Inv X pins σ (upd H (s.heap.objs.size + 1) (.lst ((putAll leB [] bs).map (·.xv)))) { s with heap := sortedAll s.heap its out.toArray } := I.laid (t' := s.toks) (fun b o e => sortedAll_old e) (Nat.le_succ _) ⟨by rw [List.length_map, putAll_sort leB_total, List.length_mergeSort, hl]; exact z, out, c, each_vals eo, hc⟩
    obtain ⟨o, I3⟩ := I2.frz (a := s.heap.objs.size + 1) upd_same (.inl ⟨_, rfl⟩)
    rw [upd_upd] at I3
    exact ⟨.ref (s.heap.objs.size + 1), _, I3, rfl, q.newLst rh (dvals_spB fun b hb => (b3 b ((putAll_mem hb).resolve_left (by intro z; cases z))).1) hfr⟩
end
end
end VI
namespace VI
open PySem PySem.Spec PyProof.Rows L2
noncomputable section
/-! ### repr(a) == repr(b) -/
theorem same_seq {d q : Nat} {s t : U} (l : Bool) (h : same (bif l then .tup d s else .vl d s) (bif l then .tup q t else .vl q t) = true) : same s t = true := by
  cases l <;> cases d <;> first | cases h | (cases q <;> first | cases h | exact h)
theorem same_tup {d : Nat} {s b : U} (h : same (.tup d s) b = true) : ∃ q t, b = .tup q t ∧ same s t = true := by
  cases d with
  | zero => cases h
  | succ d =>
    cases b with
    | tup q t => exact ⟨q, t, rfl, same_seq (d := d + 1) (q := q) true h⟩
    | _ => cases h
theorem same_vl {d : Nat} {s b : U} (h : same (.vl d s) b = true) : ∃ q t, b = .vl q t ∧ same s t = true := by
  cases d with
  | zero => cases h
  | succ d =>
    cases b with
    | vl q t => exact ⟨q, t, rfl, same_seq (d := d + 1) (q := q) false h⟩
    | _ => cases h
theorem same_int {i : Int} {b : U} (h : same (.int i) b = true) : b = .int i ∧ i.natAbs < 10 ^ 12 := by
  cases b with
  | int j =>
    have h : (Bool.rec false (Bool.rec false (beqI i j) (bltI i (.ofNat 1000000000000))) (bltI (.negSucc 999999999999) i) : Bool) = true := h
    rw [beqI_eq, bltI_eq, bltI_eq] at h
    by_cases h1 : Int.negSucc 999999999999 < i
    · by_cases h2 : i < Int.ofNat 1000000000000
      · rw [decide_eq_true h1, decide_eq_true h2] at h
        have h : decide (i = j) = true := h
        rw [of_decide_eq_true h]
        refine ⟨rfl, ?_⟩
        have h1 : (-1000000000000 : Int) < j := (of_decide_eq_true h) ▸ h1
        have h2 : j < (1000000000000 : Int) := (of_decide_eq_true h) ▸ h2
        omega
      · rw [decide_eq_true h1, decide_eq_false h2] at h; cases h
    · rw [decide_eq_false h1] at h; cases h
  | _ => cases h
theorem log2_small {n : Nat} (h : n < 10 ^ 12) : n.log2 < 1920 := by
  by_cases h0 : n = 0
  · subst h0; decide
  · exact (Nat.log2_lt h0).mpr (Nat.lt_of_lt_of_le h (by
      calc 10 ^ 12 ≤ 2 ^ 40 := by decide
        _ ≤ 2 ^ 1920 := Nat.pow_le_pow_right (by decide) (by decide)))
theorem same_ok : ∀ a : U, (∀ b d, same a b = true → uD a = some d → uD b = some d ∧ d.showable = true ∧ d.hasDict = false ∧ d.shown.length ≤ repW a) ∧
    (∀ b ds, same a b = true → uL a = some ds → uL b = some ds ∧ PyData.showableAll ds = true ∧ PyData.hasDictAll ds = false ∧ ((PyData.shownAll ds).map (·.length)).sum + 2 * (PyData.shownAll ds).length + 3 ≤ repW a)
  | .non => ⟨(fun b d h e => by
      cases (show some PyData.none = some d from e)
      cases b with
      | non => exact ⟨rfl, rfl, rfl, by decide +kernel⟩
      | _ => cases h), fun _ _ _ e => nomatch e⟩
  | .bl c => ⟨(fun b d h e => by
      cases (show some (PyData.bool c) = some d from e)
      cases b with
      | bl c' =>
        have h : beqB c c' = true := h
        have : c = c' := by cases c <;> cases c' <;> first | rfl | cases h
        subst this
        exact ⟨rfl, rfl, rfl, by cases c <;> decide +kernel⟩
      | _ => cases h), fun _ _ _ e => nomatch e⟩
  | .int i => ⟨(fun b d h e => by
      cases (show some (PyData.int i) = some d from e)
      obtain ⟨rfl, hi⟩ := same_int h
      refine ⟨rfl, decide_eq_true (log2_small hi), rfl, ?_⟩
      have := int_text_length_le10 (k := 12) (by decide) hi
      show (PySem.Str.ofString (toString i)).length ≤ 20
      rw [PySem.ofString_length]; omega), fun _ _ _ e => nomatch e⟩
  | .str n => ⟨(fun b d h e => by
      cases b with
      | str m =>
        have hm : n = m := nat_beq_iff.mp h
        subst hm
        obtain ⟨rfl, h2, h3⟩ := uD_str e
        refine ⟨e, rfl, rfl, ?_⟩
        show (reprText (dec n)).length ≤ 10 * slen n + 2
        have := StrLaws.reprText_len (dec n) (fun c hc => by
          rw [dec_cps] at hc
          exact Nat.lt_of_lt_of_le (charsL_lt hc) (by decide))
        rw [slen_eq]
        exact this
      | _ => cases h), fun _ _ _ e => nomatch e⟩
  | .nil => ⟨fun _ _ _ e => (nomatch e), fun b ds h e => by
      cases (show some ([] : List PyData) = some ds from e)
      cases b with
      | nil => exact ⟨rfl, rfl, rfl, by decide⟩
      | _ => cases h⟩
  | .cons a t => ⟨fun _ _ _ e => (nomatch e), fun b ds h e => by
      obtain ⟨x, xs, rfl, e1, e2⟩ := uL_cons e
      cases b with
      | cons c d =>
        have h : (Bool.rec false (same t d) (same a c) : Bool) = true := h
        cases h1 : same a c with
        | false => rw [h1] at h; cases h
        | true =>
          rw [h1] at h
          obtain ⟨g1, g2, g3, g4⟩ := (same_ok a).1 c x h1 e1
          obtain ⟨k1, k2, k3, k4⟩ := (same_ok t).2 d xs h e2
          refine ⟨uL_of_cons g1 k1, ?_, ?_, ?_⟩
          · rw [PyData.showableAll, g2, k2]; rfl
          · rw [PyData.hasDictAll, g3, k3]; rfl
          · rw [PyData.shownAll, List.map_cons, List.sum_cons, List.length_cons]
            show _ ≤ repW a + 2 + repW t
            omega
      | _ => cases h⟩
  | .tup p s => ⟨(fun b d h e => by
      obtain ⟨ds, rfl, e9⟩ := uD_tup e
      obtain ⟨q, t, rfl, hs⟩ := same_tup h
      obtain ⟨k1, k2, k3, k4⟩ := (same_ok s).2 t ds hs e9
      refine ⟨?_, by rw [PyData.showable]; exact k2, by rw [PyData.hasDict]; exact k3, ?_⟩
      · show (UD t).2.map PyData.tuple = _
        rw [show (UD t).2 = some ds from k1]; rfl
      · rw [PyData.shown]
        exact Nat.le_trans (tupleText_len_le _) k4), fun _ _ _ e => nomatch e⟩
  | .vl p s => ⟨(fun b d h e => by
      obtain ⟨ds, rfl, e9⟩ := uD_vl e
      obtain ⟨q, t, rfl, hs⟩ := same_vl h
      obtain ⟨k1, k2, k3, k4⟩ := (same_ok s).2 t ds hs e9
      refine ⟨?_, by rw [PyData.showable]; exact k2, by rw [PyData.hasDict]; exact k3, ?_⟩
      · show (UD t).2.map PyData.list = _
        rw [show (UD t).2 = some ds from k1]; rfl
      · rw [PyData.shown]
        exact Nat.le_trans (listText_len_le _) k4), fun _ _ _ e => nomatch e⟩
  | .vd _ => ⟨fun _ _ _ e => (nomatch e), fun _ _ _ e => nomatch e⟩
  | .ref _ => ⟨fun _ _ _ e => (nomatch e), fun _ _ _ e => nomatch e⟩
  | .gf _ => ⟨fun _ _ _ e => (nomatch e), fun _ _ _ e => nomatch e⟩
  | .clo _ _ => ⟨fun _ _ _ e => (nomatch e), fun _ _ _ e => nomatch e⟩
theorem seqD_of {a : U} (h : seqD a = true) : dpI a ≠ 0 ∧ ((∃ d s, a = .tup d s) ∨ ∃ d s, a = .vl d s) := by
  cases a with
  | tup d s =>
    cases d with
    | zero => cases h
    | succ d => exact ⟨Nat.succ_ne_zero _, .inl ⟨_, s, rfl⟩⟩
  | vl d s =>
    cases d with
    | zero => cases h
    | succ d => exact ⟨Nat.succ_ne_zero _, .inr ⟨_, s, rfl⟩⟩
  | _ => cases h
/-- both sides of the comparison -/
theorem rep_two {r1 : Rf} {H1 : Hp} {x y : U} {v1 : V} {h : VH} (h1 : Rp r1 H1 x v1) (e : repU x y h ≠ .unk) :
    repU x y h = .yes ∧ ∃ d, uD x = some d ∧ uD y = some d ∧ d.showable = true ∧ d.hasDict = false ∧ d.shown.length ≤ 1000000 ∧ d.depth ≤ 50 ∧ (∃ a, v1 = .ref a) ∧ ∀ (r2 : Rf) (H2 : Hp) (v2 : V), Rp r2 H2 y v2 → ∃ a, v2 = .ref a := by
  have e0 : repU x y h = (Bool.rec .unk (Bool.rec .unk (Bool.rec .unk .yes (Nat.ble (repW x) 1000000)) (same x y)) (seqD x) : Tri) := rfl
  rw [e0] at e ⊢
  cases q1 : seqD x with
  | false => rw [q1] at e; exact absurd rfl e
  | true =>
    cases q2 : same x y with
    | false => rw [q1, q2] at e; exact absurd rfl e
    | true =>
      cases q3 : Nat.ble (repW x) 1000000 with
      | false => rw [q1, q2, q3] at e; exact absurd rfl e
      | true =>
        obtain ⟨n, k⟩ := seqD_of q1
        obtain ⟨d, ud, _, dd, l⟩ := data_of h1 n
        obtain ⟨g1, g2, g3, g4⟩ := (same_ok x).1 y d q2 ud
        refine ⟨rfl, d, ud, g1, g2, g3, Nat.le_trans g4 (Nat.ble_eq.mp q3), by omega, ?_, ?_⟩
        · rcases k with ⟨d, s, rfl⟩ | ⟨d, s, rfl⟩
          · obtain ⟨a, _, _, z, _⟩ := (show ∃ a o xs, v1 = .ref a ∧ _ from h1); exact ⟨a, z⟩
          · obtain ⟨a, _, _, z, _⟩ := (show ∃ a o xs, v1 = .ref a ∧ _ from h1); exact ⟨a, z⟩
        · intro r2 H2 v2 h2
          rcases k with ⟨d, s, rfl⟩ | ⟨d, s, rfl⟩
          · obtain ⟨q, t, rfl, _⟩ := same_tup q2
            obtain ⟨a, _, _, z, _⟩ := (show ∃ a o xs, v2 = .ref a ∧ _ from h2); exact ⟨a, z⟩
          · obtain ⟨q, t, rfl, _⟩ := same_vl q2
            obtain ⟨a, _, _, z, _⟩ := (show ∃ a o xs, v2 = .ref a ∧ _ from h2); exact ⟨a, z⟩
/-- repr of data -/
def rRep (K : PySem.W.Frag) : List V → Hp → VK → Prop := fun vs H Q => ∃ a d, vs = [.ref a] ∧ Dp K H (.ref a) d ∧ d.showable = true ∧ d.hasDict = false ∧ d.shown.length ≤ 1000000 ∧ d.depth ≤ 50 ∧ Q (.str d.shown) H
section
variable {C : Ct} {X : Cx} {k : Nat} {p : Prog} {call : Nat → U → VH → VR} {a b : Expr} {ea eb : VE} {pos p1 p2 q1 q2 : Pos}
theorem call_repD (hg : X.A.guards = some []) (hu : X.A.units + 60 < cLine) : CallR X (.builtin "repr") (rRep X.K) := by
  intro pins s σ H vs us Q I rv ⟨a, d, ev, hd, h1, h2, h3, h4, q⟩
  subst ev
  obtain ⟨w, rfl, rw⟩ := rv.one
  cases rw
  obtain ⟨as, rd⟩ := Dp.reads I d (.ref a) (.ref a) hd rfl
  exact repr_of_reads' rd h1 (fun z => by rw [h2] at z; cases z) hg (by omega) (fun _ _ e => e) (fun h' u tk kp => ⟨.str d.shown, H, I.kept kp, ⟨u, rfl⟩, q⟩) (by rw [sizeLine_eq]; omega)
/-- what is compared -/
theorem rep_op {f1 f2 : VS → VH → VR} {rd : R2} {n : Nat} (hn : ∀ (K : PySem.W.Frag) (x y : U) (h : VH) (u : U) (h' : VH), cmpU n x y h = .one u h' → repU x y h ≠ .unk ∧ (repU x y h = .yes → h' = h ∧ ∃ b, u = .bl b ∧ ∀ t H Q, Q (.bl b) H → rd (.str t) (.str t) H Q)) (σ : L2.St) (H : Hp) (Q : VK)
    (t : tS C (fun s h => VR.bind (f1 s h) fun x h => VR.bind (f2 s h) fun y h => cmpU n x y h) σ H Q) : tOp rd (tCB (rRep X.K) (tCons (tS C f1) tNil)) (tCB (rRep X.K) (tCons (tS C f2) tNil)) σ H Q := by
  obtain ⟨r, h, s, u, h', rh, rs, e, q⟩ := t
  obtain ⟨x, h1, e1, e⟩ := bind_one e
  obtain ⟨y, h2, e2, e⟩ := bind_one e
  obtain ⟨nu, yes⟩ := hn X.K x y h2 u h' e
  refine ⟨r, h, s, x, h1, rh, rs, e1, fun r1 H1 v1 l1 k1 rh1 p1 => ?_⟩
  obtain ⟨hyes, d, u1, u2, g1, g2, g3, g4, ⟨a, rfl⟩, right⟩ := rep_two p1 nu
  refine ⟨a, d, rfl, (dp_of x).1 _ d u1 p1, g1, g2, g3, g4, r1, h1, s, y, h2, rh1, rs.mono l1 k1, e2, fun r2 H2 v2 l2 k2 rh2 p2 => ?_⟩
  obtain ⟨b, rfl⟩ := right r2 H2 v2 p2
  obtain ⟨rfl, bb, rfl, hq⟩ := yes hyes
  exact ⟨b, d, rfl, (dp_of y).1 _ d u2 p2, g1, g2, g3, g4, hq _ _ _ (q r2 H2 _ (l1.trans l2) (k1.trans k2) rh2 rfl)⟩
theorem rep_eq (x y : U) (h : VH) (u : U) (h' : VH) (e : cmpU 12 x y h = .one u h') : repU x y h ≠ .unk ∧ (repU x y h = .yes → h' = h ∧ ∃ b, u = .bl b ∧ ∀ t H Q, Q (.bl b) H → rEq (.str t) (.str t) H Q) := by
  have e : triR (repU x y h) h = .one u h' := e
  obtain ⟨rfl, n, b, rfl, hb⟩ := triR_one e
  refine ⟨n, fun hy => ⟨rfl, b, rfl, fun t H Q q => ⟨by simp [scal], ?_⟩⟩⟩
  rw [hy] at e
  cases e
  simpa using q
theorem rep_ne (x y : U) (h : VH) (u : U) (h' : VH) (e : cmpU 13 x y h = .one u h') : repU x y h ≠ .unk ∧ (repU x y h = .yes → h' = h ∧ ∃ b, u = .bl b ∧ ∀ t H Q, Q (.bl b) H → rNe (.str t) (.str t) H Q) := by
  have e : ntriR (repU x y h) h = .one u h' := e
  obtain ⟨rfl, n, b, rfl, hb⟩ := ntriR_one e
  refine ⟨n, fun hy => ⟨rfl, b, rfl, fun t H Q q => ⟨by simp [scal], ?_⟩⟩⟩
  rw [hy] at e
  cases e
  simpa using q
theorem pe_rep (hg : X.A.guards = some []) (hu : X.A.units + 60 < cLine) (g : Gl X "repr") (hm : X.mg "repr" = none) (ha : SE C X a (ev p call ea)) (c : U)
    (he : starEach [a] X.env = (false, eval a X.env) :: starEach [] X.env := by rfl) (hpl : (backTo q1 (starEach [] X.env)).any (·.1) = false := by rfl) : PE X (.Call (.Name "repr" p1) [a] [] q1) (tCB (rRep X.K) (tCons (tS C (ev p call ea c)) tNil)) :=
  pe_callB (call_repD hg hu) g hm rfl (pa_cons (ha c) pa_nil he) (by decide) (by decide) he hpl
/-- repr(a) == repr(b) -/
theorem r_repE (hg : X.A.guards = some []) (hu : X.A.units + 60 < cLine) (g : Gl X "repr") (hm : X.mg "repr" = none) (ha : SE C X a (ev p call ea)) (hb : SE C X b (ev p call eb))
    (he : starEach [a] X.env = (false, eval a X.env) :: starEach [] X.env := by rfl) (he2 : starEach [b] X.env = (false, eval b X.env) :: starEach [] X.env := by rfl) (hpl : (backTo q1 (starEach [] X.env)).any (·.1) = false := by rfl) (hpl2 : (backTo q2 (starEach [] X.env)).any (·.1) = false := by rfl) :
    SE C X (.Compare (.Call (.Name "repr" p1) [a] [] q1) [.Eq] [.Call (.Name "repr" p2) [b] [] q2] pos) (ev p call (.cmp 12 ea eb)) := fun c =>
  (pe_cmpR op_eq (pe_rep hg hu g hm ha c he hpl) (pe_rep hg hu g hm hb c he2 hpl2) (nomark _)).weak (rep_op (n := 12) fun _ => rep_eq)
theorem b_repN (hg : X.A.guards = some []) (hu : X.A.units + 60 < cLine) (g : Gl X "repr") (hm : X.mg "repr" = none) (ha : SE C X a (ev p call ea)) (hb : SE C X b (ev p call eb))
    (he : starEach [a] X.env = (false, eval a X.env) :: starEach [] X.env := by rfl) (he2 : starEach [b] X.env = (false, eval b X.env) :: starEach [] X.env := by rfl) (hpl : (backTo q1 (starEach [] X.env)).any (·.1) = false := by rfl) (hpl2 : (backTo q2 (starEach [] X.env)).any (·.1) = false := by rfl) :
    SB C X (.Compare (.Call (.Name "repr" p1) [a] [] q1) [.NotEq] [.Call (.Name "repr" p2) [b] [] q2] pos) (ev p call (.cmp 13 ea eb)) := fun c => by
  refine (pt_cmpR op_ne (pe_rep hg hu g hm ha c he hpl) (pe_rep hg hu g hm hb c he2 hpl2) (nomark _)).weak fun σ H Q ⟨r, h, s, u, h', t, rh, rs, e, et, q⟩ => ?_
  refine rep_op (n := 13) (fun _ => rep_ne) σ H _ ⟨r, h, s, u, h', rh, rs, e, fun r1 H1 v l1 k1 rh1 p1 => ?_⟩
  obtain ⟨x, h1, e1, e⟩ := bind_one e
  obtain ⟨y, h2, e2, e⟩ := bind_one e
  obtain ⟨⟨b, rfl⟩, _⟩ := cmp_bl e
  rw [true_rb] at et
  cases et
  exact ⟨_, p1, q r1 H1 l1 k1 rh1⟩
end
end
end VI
namespace VI
open PySem PySem.Spec PyProof.Rows L2
noncomputable section
/-! ### a list comprehension that a name gets -/
theorem RH.adopt {C : Ct} {r : Rf} {H : Hp} {h : VH} {D : Addr} {acc : List V} {s : U} (x : RH C r H h) (hd : ∀ k, r.ρ k ≠ some D) (hD : H D = some (.lst acc)) (hs : RpL r H s acc) : RH C (r.put h.nxt D) H (h.add (.lst s)) := by
  have kp : Kq H H := Kq.refl H
  have le := x.le_put D
  refine ⟨x.G, x.w, fun k o e => ?_, fun j k a e1 e2 => ?_, fun k hk => ?_, fun k a e => ?_⟩
  · rw [VH.find_add] at e
    by_cases hk : k = h.nxt
    · rw [if_pos hk] at e; cases e
      exact ⟨D, by rw [hk]; exact r.put_same _ _, acc, hD, hs.monoq le kp⟩
    · rw [if_neg hk] at e
      obtain ⟨a, e1, z⟩ := x.obj k o e
      refine ⟨a, by rw [r.put_ne D hk]; exact e1, ?_⟩
      cases o with
      | lst s => obtain ⟨xs, g1, g2⟩ := z; exact ⟨xs, g1, g2.monoq le kp⟩
      | dct s =>
        rcases z with ⟨kvs, g1, g2, g3⟩ | ⟨kvs, g1, g2, g3⟩
        · exact .inl ⟨kvs, g1, g2, g3.monoq le kp⟩
        · exact .inr ⟨kvs, g1, g2, g3.monoq le kp⟩
      | ins c fs => obtain ⟨A, dx, fl, g1, g2, g3, g4⟩ := z; exact ⟨A, dx, fl, g1, g2, g3, g4.monoq le kp⟩
  · by_cases hj : j = h.nxt
    · rw [hj, r.put_same] at e1
      cases e1
      by_cases hk : k = h.nxt
      · rw [hj, hk]
      · rw [r.put_ne D hk] at e2; exact absurd e2 (hd k)
    · rw [r.put_ne D hj] at e1
      by_cases hk : k = h.nxt
      · rw [hk, r.put_same] at e2; cases e2; exact absurd e1 (hd j)
      · rw [r.put_ne D hk] at e2; exact x.inj j k a e1 e2
  · have hk : h.nxt + 1 ≤ k := hk
    rw [r.put_ne D (by omega)]
    exact x.lim k (by omega)
  · by_cases hk : k = h.nxt
    · rw [hk, r.put_same] at e; cases e; exact ⟨_, hD⟩
    · rw [r.put_ne D hk] at e; exact x.live k a e
theorem Kp.adopt {r r1 r2 : Rf} {H H1 H2 : Hp} {D : Addr} {n : Nat} (k1 : Kp r H r1 H1) (k2 : Kp r1 H1 r2 H2) (h1 : H1 D = none) : Kp r H (r2.put n D) H2 := by
  have k := k1.trans k2
  refine ⟨k.tup, k.frz, fun a o e e2 => ⟨(k.ap a o e e2).1, fun j z => ?_⟩⟩
  by_cases hj : j = n
  · rw [hj, r2.put_same] at z
    cases z
    rw [(k1.ap _ o e e2).1] at h1; cases h1
  · rw [r2.put_ne D hj] at z
    exact (k.ap a o e e2).2 j z
/-- what a name gets is frozen behind the store -/
theorem _root_.L2.PS.frz {X : Cx} {st : Stmt} {t : TS} (h : PS X st t) : PS X st (fun D σ H => t { D with nx := fun σ1 H1 => ∃ a xs, H1 a = some (.lst xs) ∧ ∀ o, D.nx σ1 (upd H1 a (.frz o (.lst xs))) } σ H) := by
  refine ⟨fun pins s σ H D I q => thn (h.run pins s σ H _ I q) fun f s1 q => ?_⟩
  cases f with
  | next =>
    obtain ⟨σ', H', I1, a, xs, ha, q⟩ := q
    obtain ⟨o, I2⟩ := I1.frz ha (.inl ⟨xs, rfl⟩)
    exact ⟨σ', _, I2, q o⟩
  | brk => exact q
  | cont => exact q
  | ret u => exact q
section
variable {C : Ct} {X : Cx} {p : Prog} {call : Nat → U → VH → VR} {w : Nat} {elt it tg it1 tg1 : Expr} {ifs ifs1 : List Expr} {scope : Scope} {own : List (Str × Nat)} {pos spos py : Pos} {t t1 : VT} {ea ec ee ea1 ec1 : VE} {i : Nat} {y : Str}
/-- what is to be said of the finished list -/
abbrev FinQ (C : Ct) (r : Rf) (H : Hp) (h' : VH) (cf : U) (Q : VK) : Prop := ∀ r1 H1, r.Le r1 → Kp r H r1 H1 → ∀ r2 H2 D acc, r1.Le r2 → Kp r1 H1 r2 H2 → RH C r2 H2 h' → (∀ k, r2.ρ k ≠ some D) → H1 D = none → H2 D = some (.lst acc) → RpL r2 H2 cf acc.reverse → Q (.ref D) H2
theorem lc_read {y0 : Bool} {r : Rf} {H : Hp} {h h' : VH} {s : VS} {σ : L2.St} {cf : U} {Q : VK} (hv : ∀ i ∈ t.slots, i ∈ own.map (·.2)) (rh : RH C r H h) (rs : RS r H s σ) (e1 : ev p call (wips (own.map (·.2)) (.cfor t ea (.cif ec (.cend ee)))) .nil s h = .one cf h') (hl2 : cf.len ≤ 100000) (fin : FinQ C r H h' cf Q) :
    tLc (tSI C y0 (ev p call ea .nil)) (tSG C y0 t) (tSTx C (ev p call ec)) (tSx C (ev p call ee)) (own.map (·.2)) σ H Q := by
  rw [ev_wips] at e1
  obtain ⟨u1, h1, e2, e3⟩ := bind_one (show VR.bind (ev p call ea .nil (unsetL s (own.map (·.2))) h) (fun x h => x.walk h (.bad 122) (fun z => cforV t (fun c σ h => ev p call (.cif ec (.cend ee)) c σ h) z .nil (unsetL s (own.map (·.2))) h) (fun k => cforL t (fun c σ h => ev p call (.cif ec (.cend ee)) c σ h) k 100000 0 .nil (unsetL s (own.map (·.2))) h)) = .one cf h' from e1)
  rw [walk_eq] at e3
  have n : walkOf u1 h1 ≠ none := fun z => by rw [z] at e3; cases e3
  refine ⟨r, h, unsetL s (own.map (·.2)), u1, h1, rh, (rs.wipe _).2, e2, n, fun r1 H1 J l1 k1 rh1 wk => ?_⟩
  have rs1 := rs.mono l1 k1
  cases hw : walkOf u1 h1 with
  | none => exact absurd hw n
  | some y =>
    rw [hw] at e3
    cases y with
    | inl s0 => exact lc_turns (todoV (grows_if (grows_end _)) (wk.1 s0 hw)) hv ⟨s0, Left.zero s0, rfl, e3⟩ rh1 rs1 hl2 (fin r1 H1 l1 k1)
    | inr k0 => exact lc_turns (todoL (grows_if (grows_end _)) (wk.2 k0 hw)) hv e3 rh1 rs1 hl2 (fin r1 H1 l1 k1)
theorem lc2_read {y0 y1 : Bool} {vs1 : List Nat} {r : Rf} {H : Hp} {h h' : VH} {s : VS} {σ : L2.St} {cf : U} {Q : VK} (hv : ∀ i ∈ t.slots, i ∈ own.map (·.2)) (hv1 : ∀ i ∈ t1.slots, i ∈ vs1) (rh : RH C r H h) (rs : RS r H s σ)
    (e1 : ev p call (wips (own.map (·.2)) (.cfor t ea (.cif ec (wips vs1 (.cfor t1 ea1 (.cif ec1 (.cend ee))))))) .nil s h = .one cf h') (hl2 : cf.len ≤ 100000) (fin : FinQ C r H h' cf Q) :
    tLc2 (tSI C y0 (ev p call ea .nil)) (tSG C y0 t) (tSTx C (ev p call ec)) (tSI C y1 (ev p call ea1 .nil)) (tSG C y1 t1) (tSTx C (ev p call ec1)) (tSx C (ev p call ee)) (own.map (·.2)) vs1 σ H Q := by
  rw [ev_wips] at e1
  obtain ⟨u1, h1, e2, e3⟩ := bind_one (show VR.bind (ev p call ea .nil (unsetL s (own.map (·.2))) h) (fun x h => x.walk h (.bad 122) (fun z => cforV t (fun c σ h => ev p call (.cif ec (wips vs1 (.cfor t1 ea1 (.cif ec1 (.cend ee))))) c σ h) z .nil (unsetL s (own.map (·.2))) h) (fun k => cforL t (fun c σ h => ev p call (.cif ec (wips vs1 (.cfor t1 ea1 (.cif ec1 (.cend ee))))) c σ h) k 100000 0 .nil (unsetL s (own.map (·.2))) h)) = .one cf h' from e1)
  rw [walk_eq] at e3
  have n : walkOf u1 h1 ≠ none := fun z => by rw [z] at e3; cases e3
  refine ⟨r, h, unsetL s (own.map (·.2)), u1, h1, rh, (rs.wipe _).2, e2, n, fun r1 H1 J l1 k1 rh1 wk => ?_⟩
  have rs1 := rs.mono l1 k1
  have gr : Grows (ev p call (.cif ec (wips vs1 (.cfor t1 ea1 (.cif ec1 (.cend ee)))))) := grows_if (grows_wips (grows_for (grows_if (grows_end _))) _)
  cases hw : walkOf u1 h1 with
  | none => exact absurd hw n
  | some y =>
    rw [hw] at e3
    cases y with
    | inl s0 => exact lc2_turns (todoV gr (wk.1 s0 hw)) hv hv1 ⟨s0, Left.zero s0, rfl, e3⟩ rh1 rs1 hl2 (fin r1 H1 l1 k1)
    | inr k0 => exact lc2_turns (todoL gr (wk.2 k0 hw)) hv hv1 e3 rh1 rs1 hl2 (fin r1 H1 l1 k1)
/-- frozen, as a slot's value -/
theorem fin_frz {r : Rf} {H : Hp} {h' : VH} {cf : U} {s : VS} {σ : L2.St} {D : Ends} (rs : RS r H s σ) (o : Out C r H D (.nx (s.set i (mkL (cf.revA .nil))) h')) :
    FinQ C r H h' cf (fun v H1 => ∃ a xs, H1 a = some (.lst xs) ∧ ∀ o, D.nx (σ.set i (some v)) (upd H1 a (.frz o (.lst xs)))) := by
  intro r1 H1 l1 k1 r2 H2 D' acc l2 k2 rh2 hd h1D h2D hc2
  refine ⟨D', acc, h2D, fun ob => ?_⟩
  obtain ⟨rh3, kq⟩ := rh2.other (o := .frz ob (.lst acc)) hd h2D (fun _ z => by cases z) (fun _ _ z => by cases z)
  have kk := k1.trans (k2.other (o := .frz ob (.lst acc)) h1D)
  exact o r2 _ _ (l1.trans l2) kk rh3 (((rs.mono (l1.trans l2) kk)).set i (rp_mkL ((rev_back hc2).monoq (Rf.Le.refl _) kq) upd_same))
/-- .. as an object that changes -/
theorem fin_mut {r : Rf} {H : Hp} {hf : VH} {cf : U} {s : VS} {σ : L2.St} {D : Ends} (rs : RS r H s σ) (o : Out C r H D (.nx (s.set i (.ref hf.nxt)) (hf.add (.lst (cf.revA .nil))))) :
    FinQ C r H hf cf (fun v H1 => D.nx (σ.set i (some v)) H1) := by
  intro r1 H1 l1 k1 r2 H2 D' acc l2 k2 rh2 hd h1D h2D hc2
  have kk : Kp r H (r2.put hf.nxt D') H2 := k1.adopt k2 h1D
  have ll : r.Le (r2.put hf.nxt D') := (l1.trans l2).trans (rh2.le_put D')
  exact o _ _ _ ll kk (rh2.adopt hd h2D (rev_back hc2)) ((rs.mono ll kk).set i ⟨D', rfl, r2.put_same _ _⟩)
theorem asg_comp {r : Rf} {H : Hp} {h : VH} {s : VS} {D : Ends} {cl : VE} (o : Out C r H D (ex p call w (.asg (.var i) (.comp cl)) s h)) :
    ∃ cf h', ev p call cl .nil s h = .one cf h' ∧ cf.len ≤ 100000 ∧ Out C r H D (.nx (s.set i (mkL (cf.revA .nil))) h') := by
  obtain ⟨u, h1, e, o⟩ := ofR_out o
  obtain ⟨cf, hf, e1, e⟩ := bind_one (show VR.bind (ev p call cl .nil s h) (fun s h => few s (.one (mkL (s.revA .nil)) h) (.bad 141)) = .one u h1 from e)
  obtain ⟨e, hlen⟩ := few_one e (by intro z; cases z)
  cases e
  exact ⟨cf, _, e1, hlen, o⟩
theorem asg_compH {r : Rf} {H : Hp} {h : VH} {s : VS} {D : Ends} {cl : VE} (o : Out C r H D (ex p call w (.asg (.var i) (.compH cl)) s h)) :
    ∃ cf h', ev p call cl .nil s h = .one cf h' ∧ cf.len ≤ 100000 ∧ Out C r H D (.nx (s.set i (.ref h'.nxt)) (h'.add (.lst (cf.revA .nil)))) := by
  obtain ⟨u, h1, e, o⟩ := ofR_out o
  obtain ⟨cf, hf, e1, e⟩ := bind_one (show VR.bind (ev p call cl .nil s h) (fun s h => few s (newO (.lst (s.revA .nil)) h) (.bad 141)) = .one u h1 from e)
  obtain ⟨e, hlen⟩ := few_one e (by intro z; cases z)
  rw [newO_eq] at e
  cases e
  exact ⟨cf, _, e1, hlen, o⟩
theorem q_setLc {y0 : Bool} (hc : X.calm = true) (hN : X.N.Nodup) (hy : X.N[i]? = some y) (hyl : X.env.scope.names.lookup y = some .local) (hi : SI C X y0 tg it (ev p call ea)) (ok : BlkOk X.N X.env.scope scope own) (hv : ∀ i ∈ t.slots, i ∈ own.map (·.2))
    (hg : ∀ (s : Shared) (H : Hp) (Cc : Addr) (cl : List (Str × Addr)) (fp : List Addr), SG C (X.blk s H scope (compEnvC scope cl Cc X.env) fp) y0 tg t)
    (ht : ∀ (s : Shared) (H : Hp) (Cc : Addr) (cl : List (Str × Addr)) (fp : List Addr), STs C (X.blk s H scope (compEnvC scope cl Cc X.env) fp) ifs (ev p call ec))
    (he : ∀ (s : Shared) (H : Hp) (Cc : Addr) (cl : List (Str × Addr)) (fp : List Addr), SE C (X.blk s H scope (compEnvC scope cl Cc X.env) fp) elt (ev p call ee))
    (hsw : swapsWith (.ListComp elt [⟨tg, it, ifs, 0⟩] scope pos) (some (.Name y py)) spos.line X.env = pure true := by rfl) (hs : ∀ x, foldedSetIterable it X.env x = pure x := by intro _; rfl) :
    SX C X p call w (.Assign [.Name y py] (.ListComp elt [⟨tg, it, ifs, 0⟩] scope pos) spos) (.asg (.var i) (.comp (wips (own.map (·.2)) (.cfor t ea (.cif ec (.cend ee)))))) := by
  refine (PS.frz (ps_setLc hc hN hy hyl hsw hi ok (fun s H Cc cl fp => hg s H Cc cl fp) (fun s H Cc cl fp => pts_x (ht s H Cc cl fp)) (fun s H Cc cl fp => pe_x (he s H Cc cl fp)) hs)).weak fun D σ H ⟨r, h, s, rh, rs, o⟩ => ?_
  obtain ⟨cf, h', e1, hl, o⟩ := asg_comp o
  exact lc_read hv rh rs e1 hl (fin_frz rs o)
theorem q_setLcH {y0 : Bool} (hc : X.calm = true) (hN : X.N.Nodup) (hy : X.N[i]? = some y) (hyl : X.env.scope.names.lookup y = some .local) (hi : SI C X y0 tg it (ev p call ea)) (ok : BlkOk X.N X.env.scope scope own) (hv : ∀ i ∈ t.slots, i ∈ own.map (·.2))
    (hg : ∀ (s : Shared) (H : Hp) (Cc : Addr) (cl : List (Str × Addr)) (fp : List Addr), SG C (X.blk s H scope (compEnvC scope cl Cc X.env) fp) y0 tg t)
    (ht : ∀ (s : Shared) (H : Hp) (Cc : Addr) (cl : List (Str × Addr)) (fp : List Addr), STs C (X.blk s H scope (compEnvC scope cl Cc X.env) fp) ifs (ev p call ec))
    (he : ∀ (s : Shared) (H : Hp) (Cc : Addr) (cl : List (Str × Addr)) (fp : List Addr), SE C (X.blk s H scope (compEnvC scope cl Cc X.env) fp) elt (ev p call ee))
    (hsw : swapsWith (.ListComp elt [⟨tg, it, ifs, 0⟩] scope pos) (some (.Name y py)) spos.line X.env = pure true := by rfl) (hs : ∀ x, foldedSetIterable it X.env x = pure x := by intro _; rfl) :
    SX C X p call w (.Assign [.Name y py] (.ListComp elt [⟨tg, it, ifs, 0⟩] scope pos) spos) (.asg (.var i) (.compH (wips (own.map (·.2)) (.cfor t ea (.cif ec (.cend ee)))))) := by
  refine (ps_setLc hc hN hy hyl hsw hi ok (fun s H Cc cl fp => hg s H Cc cl fp) (fun s H Cc cl fp => pts_x (ht s H Cc cl fp)) (fun s H Cc cl fp => pe_x (he s H Cc cl fp)) hs).weak fun D σ H ⟨r, h, s, rh, rs, o⟩ => ?_
  obtain ⟨cf, h', e1, hl, o⟩ := asg_compH o
  exact lc_read hv rh rs e1 hl (fin_mut rs o)
theorem q_setLc2 {y0 y1 : Bool} {vs1 : List Nat} (hc : X.calm = true) (hN : X.N.Nodup) (hy : X.N[i]? = some y) (hyl : X.env.scope.names.lookup y = some .local) (hi : SI C X y0 tg it (ev p call ea)) (ok : BlkOk X.N X.env.scope scope own) (hv : ∀ i ∈ t.slots, i ∈ own.map (·.2)) (hv1 : ∀ i ∈ t1.slots, i ∈ vs1) (hvo : ∀ i ∈ vs1, i ∈ own.map (·.2))
    (hg : ∀ (s : Shared) (H : Hp) (Cc : Addr) (cl : List (Str × Addr)) (fp : List Addr), SG C (X.blk s H scope (compEnvC scope cl Cc X.env) fp) y0 tg t)
    (ht : ∀ (s : Shared) (H : Hp) (Cc : Addr) (cl : List (Str × Addr)) (fp : List Addr), STs C (X.blk s H scope (compEnvC scope cl Cc X.env) fp) ifs (ev p call ec))
    (hi1 : ∀ (s : Shared) (H : Hp) (Cc : Addr) (cl : List (Str × Addr)) (fp : List Addr), SI C (X.blk s H scope (compEnvC scope cl Cc X.env) fp) y1 tg1 it1 (ev p call ea1))
    (hg1 : ∀ (s : Shared) (H : Hp) (Cc : Addr) (cl : List (Str × Addr)) (fp : List Addr), SG C (X.blk s H scope (compEnvC scope cl Cc X.env) fp) y1 tg1 t1)
    (ht1 : ∀ (s : Shared) (H : Hp) (Cc : Addr) (cl : List (Str × Addr)) (fp : List Addr), STs C (X.blk s H scope (compEnvC scope cl Cc X.env) fp) ifs1 (ev p call ec1))
    (he : ∀ (s : Shared) (H : Hp) (Cc : Addr) (cl : List (Str × Addr)) (fp : List Addr), SE C (X.blk s H scope (compEnvC scope cl Cc X.env) fp) elt (ev p call ee))
    (hsw : swapsWith (.ListComp elt [⟨tg, it, ifs, 0⟩, ⟨tg1, it1, ifs1, 0⟩] scope pos) (some (.Name y py)) spos.line X.env = pure true := by rfl) (hs : ∀ x, foldedSetIterable it X.env x = pure x := by intro _; rfl) (hs1 : ∀ env x, foldedSetIterable it1 env x = pure x := by intro _ _; rfl) :
    SX C X p call w (.Assign [.Name y py] (.ListComp elt [⟨tg, it, ifs, 0⟩, ⟨tg1, it1, ifs1, 0⟩] scope pos) spos) (.asg (.var i) (.comp (wips (own.map (·.2)) (.cfor t ea (.cif ec (wips vs1 (.cfor t1 ea1 (.cif ec1 (.cend ee))))))))) := by
  refine (PS.frz (ps_setLc2 hc hN hy hyl hsw hi ok hvo (fun s H Cc cl fp => hg s H Cc cl fp) (fun s H Cc cl fp => pts_x (ht s H Cc cl fp)) (fun s H Cc cl fp => hi1 s H Cc cl fp) (fun s H Cc cl fp => hg1 s H Cc cl fp) (fun s H Cc cl fp => pts_x (ht1 s H Cc cl fp)) (fun s H Cc cl fp => pe_x (he s H Cc cl fp)) hs hs1)).weak fun D σ H ⟨r, h, s, rh, rs, o⟩ => ?_
  obtain ⟨cf, h', e1, hl, o⟩ := asg_comp o
  exact lc2_read hv hv1 rh rs e1 hl (fin_frz rs o)
end
end
end VI
namespace VI
open PySem PySem.Spec PyProof.Rows L2
noncomputable section
/-! ### comprehensions of three clauses -/
/-- a turn of a clause behind which another stands -/
def turnM (e : Expr) (j : Nat) (tg it1 : Expr) (sp nx : Pos) (ifs : List Expr) (it acc : Value) (env : Env) : PySem.Sem PySem.Fin := do
  standAt sp
  match ← pyNext it with
  | none => pure (.done .next)
  | some v =>
    letOwnedTupleGo tg it v
    assign tg env v
    let mut ok := true
    for c in ifs do
      if ok then ok ← isTrue c env (eval c env)
    if ok then
      let y ← eval it1 env
      standAt nx
      let y ← foldedSetIterable it1 env y
      let _ ← runOwn (.compStart e (j + 1) (← holding [y] (pyIter y)) acc env) env
    again (.compLoop e j it acc env)
/-- .. of the last -/
def turnE (e : Expr) (j : Nat) (tg elt : Expr) (sp : Pos) (ifs : List Expr) (it acc : Value) (env : Env) : PySem.Sem PySem.Fin := do
  standAt sp
  match ← pyNext it with
  | none => pure (.done .next)
  | some v =>
    letOwnedTupleGo tg it v
    assign tg env v
    let mut ok := true
    for c in ifs do
      if ok then ok ← isTrue c env (eval c env)
    if ok then
      (do let _ ← PySem.call (.builtin "list.append") [acc, ← eval elt env])
    again (.compLoop e j it acc env)
section
variable {elt t0 i0 t1 i1 t2 i2 : Expr} {f0 f1 f2 : List Expr} {scope : Scope} {pos : Pos}
abbrev lc3E (elt t0 i0 t1 i1 t2 i2 : Expr) (f0 f1 f2 : List Expr) (scope : Scope) (pos : Pos) : Expr := .ListComp elt [⟨t0, i0, f0, 0⟩, ⟨t1, i1, f1, 0⟩, ⟨t2, i2, f2, 0⟩] scope pos
theorem turn3_0 (it acc : Value) (env : Env) : compTurn (lc3E elt t0 i0 t1 i1 t2 i2 f0 f1 f2 scope pos) 0 it acc env = turnM (lc3E elt t0 i0 t1 i1 t2 i2 f0 f1 f2 scope pos) 0 t0 i1 i0.pos i1.pos f0 it acc env := by rfl
theorem turn3_1 (it acc : Value) (env : Env) : compTurn (lc3E elt t0 i0 t1 i1 t2 i2 f0 f1 f2 scope pos) 1 it acc env = turnM (lc3E elt t0 i0 t1 i1 t2 i2 f0 f1 f2 scope pos) 1 t1 i2 i1.pos i2.pos f1 it acc env := by rfl
theorem turn3_2 (it acc : Value) (env : Env) : compTurn (lc3E elt t0 i0 t1 i1 t2 i2 f0 f1 f2 scope pos) 2 it acc env = turnE (lc3E elt t0 i0 t1 i1 t2 i2 f0 f1 f2 scope pos) 2 t2 elt i2.pos f2 it acc env := by rfl
end
abbrev NoE : Value → Shared → Prop := fun _ _ => False
/-- what stands behind a clause's tests, as what it does to a claim -/
abbrev Bdy := Value → Env → (Shared → Prop) → Shared → Prop
def bdyE (P : Program) (w : World) (A : Around) (elt : Expr) : Bdy := fun acc env Q s => wpAny (model P w) A (eval elt env) (fun x s4 => wpAny (model P w) A (PySem.call (.builtin "list.append") [acc, x]) (fun _ s5 => Q s5) NoE s4) NoE s
def bdyM (P : Program) (w : World) (A : Around) (e : Expr) (j : Nat) (it1 : Expr) : Bdy := fun acc env Q s => wpAny (model P w) A (eval it1 env) (fun x s4 => wpAny (model P w) A (pyIter x) (fun itv s5 =>
  codeAny (model P w) A (.compStart e (j + 1) itv acc env) (fun r s' => match r with | .ok _ => Q s' | .error _ => False) s5) NoE s4) NoE s
/-- the loop of one clause -/
def LoopR (P : Program) (w : World) (A : Around) (e : Expr) (j : Nat) (tg : Expr) (ifs : List Expr) (bd : Bdy) : Prop := ∀ (R : Result → Shared → Prop) (s : Shared) (it acc : Value) (env : Env) (I : Nat → Shared → Prop),
  (∀ n s, I n s → wpAny (model P w) A (pyNext it) (fun r s1 => match r with
    | none => R (.ok .next) s1
    | some v => wpAny (model P w) A (letOwnedTupleGo tg it v) (fun _ s2 => wpAny (model P w) A (assign tg env v) (fun _ s3 =>
        wpAny (model P w) A (forIn ifs true fun c r => if r = true then do let ok ← isTrue c env (eval c env); pure (ForInStep.yield ok) else pure (ForInStep.yield r)) (fun ok s4 =>
          if ok = true then bd acc env (fun s' => ∃ m, m < n ∧ I m s') s4 else ∃ m, m < n ∧ I m s4) NoE s3) NoE s2) NoE s1) NoE s) →
  ∀ n, I n s → codeAny (model P w) A (.compLoop e j it acc env) R s
theorem loopE {P : Program} {w : World} {A : Around} {el0 : Expr} {gs : List Comprehension} {sc0 : Scope} {ps0 : Pos} {j : Nat} {tg elt : Expr} {sp : Pos} {ifs : List Expr} (ht : ∀ it acc env, compTurn (.ListComp el0 gs sc0 ps0) j it acc env = turnE (.ListComp el0 gs sc0 ps0) j tg elt sp ifs it acc env) : LoopR P w A (.ListComp el0 gs sc0 ps0) j tg ifs (bdyE P w A elt) := by
  intro R s it acc env I turn n hI
  refine codeAny_loop rfl I (fun k s1 hI1 => ?_) n hI
  show wpAny _ A ((compTurn (.ListComp el0 gs sc0 ps0) j it acc env).onRaise (fun x => do noteFrame x env; theTreesLotGoes x)) _ _ s1
  refine wpAny_noted ?_
  rw [ht]
  refine wpAny_bind (wpAny_standAt (wpAny_bind (wpAny_mono (turn k s1 hI1) (fun r s2 g2 => ?_) fun _ _ z => False.elim z)))
  cases r with
  | none => exact wpAny_pure g2
  | some v =>
    refine wpAny_bind (wpAny_mono g2 (fun _ s3 g3 => ?_) fun _ _ z => False.elim z)
    refine wpAny_bind (wpAny_mono g3 (fun _ s4 g4 => wpAny_bind (wpAny_mono g4 (fun ok s5 g5 => ?_) fun _ _ z => False.elim z)) fun _ _ z => False.elim z)
    cases ok with
    | false => exact wpAny_pure ⟨rfl, g5⟩
    | true => exact wpAny_bind (wpAny_bind (wpAny_mono (show wpAny _ _ _ _ _ _ from g5) (fun x s6 g6 => wpAny_bind (wpAny_mono g6 (fun _ s7 g7 => wpAny_pure (wpAny_pure ⟨rfl, g7⟩)) fun _ _ z => False.elim z)) fun _ _ z => False.elim z))
theorem loopM {P : Program} {w : World} {A : Around} {el0 : Expr} {gs : List Comprehension} {sc0 : Scope} {ps0 : Pos} {j : Nat} {tg it1 : Expr} {sp nx : Pos} {ifs : List Expr} (ht : ∀ it acc env, compTurn (.ListComp el0 gs sc0 ps0) j it acc env = turnM (.ListComp el0 gs sc0 ps0) j tg it1 sp nx ifs it acc env) (hs : ∀ env x, foldedSetIterable it1 env x = pure x) : LoopR P w A (.ListComp el0 gs sc0 ps0) j tg ifs (bdyM P w A (.ListComp el0 gs sc0 ps0) j it1) := by
  intro R s it acc env I turn n hI
  refine codeAny_loop rfl I (fun k s1 hI1 => ?_) n hI
  show wpAny _ A ((compTurn (.ListComp el0 gs sc0 ps0) j it acc env).onRaise (fun x => do noteFrame x env; theTreesLotGoes x)) _ _ s1
  refine wpAny_noted ?_
  rw [ht]
  refine wpAny_bind (wpAny_standAt (wpAny_bind (wpAny_mono (turn k s1 hI1) (fun r s2 g2 => ?_) fun _ _ z => False.elim z)))
  cases r with
  | none => exact wpAny_pure g2
  | some v =>
    refine wpAny_bind (wpAny_mono g2 (fun _ s3 g3 => ?_) fun _ _ z => False.elim z)
    refine wpAny_bind (wpAny_mono g3 (fun _ s4 g4 => wpAny_bind (wpAny_mono g4 (fun ok s5 g5 => ?_) fun _ _ z => False.elim z)) fun _ _ z => False.elim z)
    cases ok with
    | false => exact wpAny_pure ⟨rfl, g5⟩
    | true =>
      refine wpAny_bind (wpAny_mono (show wpAny _ _ _ _ _ _ from g5) (fun y s6 g6 => ?_) fun _ _ z => False.elim z)
      refine wpAny_bind (wpAny_standAt (wpAny_bind (wpAny_of_eq (hs env y) (wpAny_bind (wpAny_holding (wpAny_mono g6 (fun itv s7 g7 => ?_) fun _ _ z => False.elim z))))))
      refine wpAny_bind (wpAny_runOwn ?_)
      rw [Around.mark_none]
      refine codeAny_mono g7 fun r s' hr => ?_
      cases r with
      | ok f => first | exact wpAny_pure ⟨rfl, hr⟩ | exact wpAny_bind (wpAny_pure (wpAny_pure ⟨rfl, hr⟩))
      | error e => exact False.elim hr
section
variable {P : Program} {w : World} {A : Around} {R : Result → Shared → Prop} {s : Shared} {elt t0 i0 t1 i1 t2 i2 : Expr} {f0 f1 f2 : List Expr} {scope : Scope} {pos : Pos} {it acc : Value} {env : Env}
theorem start3_1 (h0 : codeAny (model P w) A (.compLoop (lc3E elt t0 i0 t1 i1 t2 i2 f0 f1 f2 scope pos) 1 it acc env) R s)
    (h : wpAny (model P w) A (pyIter it) (fun it' s' => codeAny (model P w) A (.compLoop (lc3E elt t0 i0 t1 i1 t2 i2 f0 f1 f2 scope pos) 1 it' acc env) R s') NoE s) : codeAny (model P w) A (.compStart (lc3E elt t0 i0 t1 i1 t2 i2 f0 f1 f2 scope pos) 1 it acc env) R s := by
  refine codeAny_of_tree ?_
  show wpAny _ _ ((compStart (lc3E elt t0 i0 t1 i1 t2 i2 f0 f1 f2 scope pos) 1 it acc env).onRaise (fun x => do noteFrame x env; standAt theWindowsPlace)) _ _ s
  refine wpAny_notedAt ?_
  unfold compStart
  show wpAny _ _ (ask >>= _) _ _ s
  refine wpAny_bind (wpAny_askSetting (wpAny_ite ?_))
  split
  · first | exact wpAny_bind (wpAny_pure (wpAny_pure (And.intro rfl h0))) | exact wpAny_pure (And.intro rfl h0)
  · first
      | exact wpAny_bind (wpAny_rule (wpAny_bind (wpAny_standAt (wpAny_bind (wpAny_mono h (fun it' s' h' => wpAny_pure (And.intro rfl h')) fun _ _ x => False.elim x)))))
      | (refine wpAny_bind (wpAny_rule ?_); show wpAny _ _ (standAt i1.pos >>= _) _ _ s; exact wpAny_bind (wpAny_standAt (wpAny_bind (wpAny_mono h (fun it' s' h' => wpAny_pure (And.intro rfl h')) fun _ _ x => False.elim x))))
theorem start3_2 (h0 : codeAny (model P w) A (.compLoop (lc3E elt t0 i0 t1 i1 t2 i2 f0 f1 f2 scope pos) 2 it acc env) R s)
    (h : wpAny (model P w) A (pyIter it) (fun it' s' => codeAny (model P w) A (.compLoop (lc3E elt t0 i0 t1 i1 t2 i2 f0 f1 f2 scope pos) 2 it' acc env) R s') NoE s) : codeAny (model P w) A (.compStart (lc3E elt t0 i0 t1 i1 t2 i2 f0 f1 f2 scope pos) 2 it acc env) R s := by
  refine codeAny_of_tree ?_
  show wpAny _ _ ((compStart (lc3E elt t0 i0 t1 i1 t2 i2 f0 f1 f2 scope pos) 2 it acc env).onRaise (fun x => do noteFrame x env; standAt theWindowsPlace)) _ _ s
  refine wpAny_notedAt ?_
  unfold compStart
  show wpAny _ _ (ask >>= _) _ _ s
  refine wpAny_bind (wpAny_askSetting (wpAny_ite ?_))
  split
  · first | exact wpAny_bind (wpAny_pure (wpAny_pure (And.intro rfl h0))) | exact wpAny_pure (And.intro rfl h0)
  · first
      | exact wpAny_bind (wpAny_rule (wpAny_bind (wpAny_standAt (wpAny_bind (wpAny_mono h (fun it' s' h' => wpAny_pure (And.intro rfl h')) fun _ _ x => False.elim x)))))
      | (refine wpAny_bind (wpAny_rule ?_); show wpAny _ _ (standAt i2.pos >>= _) _ _ s; exact wpAny_bind (wpAny_standAt (wpAny_bind (wpAny_mono h (fun it' s' h' => wpAny_pure (And.intro rfl h')) fun _ _ x => False.elim x))))
end
end
end VI
namespace VI
open PySem PySem.Spec PyProof.Rows L2
noncomputable section
/-! ### clauses within clauses -/
section
variable {C : Ct} {B : Cx} {p : Prog} {call : Nat → U → VH → VR} {D : Addr}
/-- where the evaluation stands: the list D beside it -/
structure Sd (C : Ct) (r1 : Rf) (H1 : Hp) (D : Addr) (r : Rf) (H : Hp) (h : VH) (c : U) (acc : List V) : Prop where
  le : r1.Le r
  kp : Kp r1 H1 r H
  rh : RH C r H h
  nd : ∀ k, r.ρ k ≠ some D
  at_ : H D = some (.lst acc)
  rp : RpL r H c acc.reverse
/-- behind a clause's tests: the rest does as its evaluation -/
def TailOk (C : Ct) (B : Cx) (D : Addr) (vs : List Nat) (f : Sem) (bd : Bdy) : Prop :=
  ∀ (pins : List (Addr × Obj)) (s : Shared) (σ : L2.St) (r1 : Rf) (H1 : Hp) (r : Rf) (H : Hp) (h : VH) (c : U) (acc : List V) (sv : VS) (cf : U) (hf : VH) (Q : Shared → Prop), H1 D = none → Inv B pins σ H s → Sd C r1 H1 D r H h c acc → RS r H sv σ → f c sv h = .one cf hf → cf.len ≤ 100000 →
    (∀ s' r' H' acc', Inv B pins (L2.wipe σ vs) H' s' → r.Le r' → Kq H H' → Sd C r1 H1 D r' H' hf cf acc' → Q s') → bd (.ref D) B.env Q s
theorem wipe_weak {pins : List (Addr × Obj)} {σ σ' : L2.St} {H : Hp} {s : Shared} {vs : List Nat} (I : Inv B pins σ' H s) (hl : σ.length = σ'.length) (hk : ∀ (j : Nat) v, (L2.wipe σ vs)[j]? = some (some v) → σ'[j]? = some (some v)) : Inv B pins (L2.wipe σ vs) H s :=
  I.weak (by rw [wipe_length]; exact hl) hk
theorem tail_end {elt : Expr} {ee : VE} (hx : B.xe = fun _ _ => False) (he : SE C B elt (ev p call ee)) (vs : List Nat) : TailOk C B D vs (ev p call (.cend ee)) (bdyE B.prog B.w B.A elt) := by
  intro pins s σ r1 H1 r H h c acc sv cf hf Q h1 I sd rs e hl fin
  obtain ⟨y, h4, e3, e2⟩ := bind_one (show VR.bind (ev p call ee c sv h) (fun x h => .one (.cons x c) h) = .one cf hf from e)
  cases (show VR.one (.cons y c) h4 = .one cf hf from e2)
  have st : wpAny (model B.prog B.w) B.A (eval elt B.env) (EP B pins σ fun v H4 => ∃ r4, r.Le r4 ∧ Kp r H r4 H4 ∧ RH C r4 H4 hf ∧ Rp r4 H4 y v) B.xe s := (he c).run pins s σ H _ I ⟨r, h, sv, y, _, sd.rh, rs, e3, fun r4 H4 v l4 k4 rh4 p4 => ⟨r4, l4, k4, rh4, p4⟩⟩
  rw [hx] at st
  refine thnF st fun u s1 ⟨v, H4, I4, rv, r4, l4, k4, rh4, p4⟩ => ?_
  obtain ⟨d1, d2⟩ := k4.ap D _ sd.at_ sd.nd
  have hz : acc.length < sizeLine := by
    have z := sd.rp.length
    rw [List.length_reverse] at z
    have z2 : (U.cons y c).len = c.len + 1 := rfl
    rw [sizeLine_eq]; omega
  obtain ⟨o1, o2⟩ := rh4.other (o := .lst (acc ++ [v])) d2 d1 (fun _ z => by cases z) (fun _ _ z => by cases z)
  refine app_ok I4 d1 hz rv fun s2 I2 => fin s2 r4 _ (acc ++ [v]) (wipe_weak I2 rfl fun j v e => (wipe_some e).1) l4 (k4.q.trans o2) ⟨sd.le.trans l4, (sd.kp.trans k4).other h1, o1, d2, upd_same, ?_⟩
  rw [List.reverse_append]
  exact ⟨v, acc.reverse, rfl, p4.monoq (Rf.Le.refl _) o2, (sd.rp.mono l4 k4).monoq (Rf.Le.refl _) o2⟩
variable {e : Expr} {j : Nat} {tg : Expr} {ifs : List Expr} {t : VT} {ec inner : VE} {vs vs' : List Nat} {bd : Bdy}
/-- the loop of a clause -/
theorem loop_ok {y : Bool} {J : It} {it : Addr} {fp : List Addr} {tn : Nat → Heap → Prop} {T : Nat → Nat → U → VH → Prop} {r0 r1 : Rf} {H0 H1 : Hp} {h0 hf : VH} {c0 cf : U} {acc0 : List V} {sv : VS} {σ : L2.St} {m0 : Nat} {pins : List (Addr × Obj)} {s : Shared} {R : Result → Shared → Prop}
    (hx : B.xe = fun _ _ => False) (hc : B.calm = true) (LR : LoopR B.prog B.w B.A e j tg ifs bd) (Tu : Turn B.prog B.w B.K tg J fp it tn) (st0 : tn 0 s.heap) (hfp : ∀ b ∈ fp, FpOk B pins H0 b)
    (hg : SG C B y tg t) (ht : STs C B ifs (ev p call ec)) (tl : TailOk C B D vs' (ev p call inner) bd) (hv : ∀ i ∈ t.slots, i ∈ vs) (hv' : ∀ i ∈ vs', i ∈ vs)
    (td : Todo C y J r0 H0 t (ev p call (.cif ec inner)) (unsetL sv vs) cf hf T) (t0 : T m0 0 c0 h0) (h1 : H1 D = none) (I : Inv B pins (L2.wipe σ vs) H0 s) (sd : Sd C r1 H1 D r0 H0 h0 c0 acc0) (rs : RS r0 H0 sv σ) (hl : cf.len ≤ 100000)
    (stop : ∀ s' r' H' acc', Inv B pins (L2.wipe σ vs) H' s' → r0.Le r' → Kq H0 H' → Sd C r1 H1 D r' H' hf cf acc' → R (.ok .next) s') :
    codeAny (model B.prog B.w) B.A (.compLoop e j (.ref it) (.ref D) B.env) R s := by
  refine LR R s (.ref it) (.ref D) B.env (fun m s' => ∃ i r H h c acc, Inv B pins (L2.wipe σ vs) H s' ∧ tn i s'.heap ∧ (∀ b ∈ fp, H b = none) ∧ T m i c h ∧ r0.Le r ∧ Kq H0 H ∧ Sd C r1 H1 D r H h c acc) ?_ m0 ⟨0, r0, H0, h0, c0, acc0, I, st0, fun b hb => (hfp b hb).1, t0, Rf.Le.refl _, Kq.refl _, sd⟩
  rintro m s1 ⟨i, r, H, h, c, acc, I1, st1, n1, ht1, l, k, sd1⟩
  have stat : ∀ {H' : Hp}, (∀ b ∈ fp, H' b = none) → ∀ b ∈ fp, FpOk B pins H' b := fun hn b hb => ⟨hn b hb, (hfp b hb).2⟩
  rcases td.step m i c h r H ht1 l k sd1.rh with ⟨sp, rfl, rfl⟩ | ⟨a, s', c1, h1', m', hm, ⟨go, yl⟩, hxa, hf1, ht'⟩
  · refine thnF (Tu.done B rfl rfl rfl hc i pins s1 _ H NoE I1 (stat n1) st1 sp) fun q s2 ⟨hq, I2⟩ => ?_
    subst hq
    exact stop s2 r H acc I2 l k sd1
  · refine thnF (Tu.item B rfl rfl rfl hc i pins s1 _ H NoE I1 (stat n1) st1 go) fun q s2 ⟨u, hq, g2⟩ => ?_
    subst hq
    refine thnF g2 fun _ s3 ⟨x, H3, I3, rx, y3, st3, n3⟩ => ?_
    obtain ⟨k1, rh', hp1⟩ := yl x H3 y3
    have I3' := I3.pinned (stat n3) (Tu.obj _ _ st3)
    have rsw : RS r H3 (unsetL sv vs) (L2.wipe σ vs) := (((rs.monoq l k).mono (Rf.Le.refl _) k1).wipe vs).1
    have kd := k1.ap D _ sd1.at_ sd1.nd
    have sd3 : Sd C r1 H1 D r H3 h c acc := ⟨sd1.le, sd1.kp.trans k1, rh' h sd1.rh, kd.2, kd.1, sd1.rp.mono (Rf.Le.refl _) k1⟩
    have SG := hg.run _ s3 (L2.wipe σ vs) H3 x u (fun σ2 H2 => H2 = H3 ∧ RS r H3 s' σ2 ∧ L2.wipe σ2 vs = L2.wipe σ vs) I3' rx ⟨r, h, unsetL sv vs, a, s', rh' h sd1.rh, rsw, hp1, hxa, fun σ2 rs2 on => ⟨rfl, rs2, by
      rw [on vs hv]; exact wipe_wipe vs vs σ fun _ h => h⟩⟩
    rw [hx] at SG
    refine thnF SG fun _ s4 ⟨σ4, H4, I4, eH, rs4, hw⟩ => ?_
    subst eH
    obtain ⟨tv, ht1', e1, e2⟩ := bind_one hf1
    rw [true_eq] at e2
    have hl4 : σ.length = σ4.length := by
      have := congrArg List.length hw
      rw [wipe_length, wipe_length] at this
      exact this.symm
    have hk4 : ∀ (j : Nat) v, (L2.wipe σ vs)[j]? = some (some v) → σ4[j]? = some (some v) ∧ j ∉ vs := fun j v z => by
      rw [← hw] at z
      exact wipe_some z
    -- the turn's end
    have fin : ∀ {s' : Shared} {σ' : L2.St} {r' : Rf} {H' : Hp} {acc' : List V}, Inv B (pins ++ pinsAt fp s3.heap) σ' H' s' → σ.length = σ'.length → (∀ (j : Nat) v, (L2.wipe σ vs)[j]? = some (some v) → σ'[j]? = some (some v)) → r.Le r' → Kq H4 H' → Sd C r1 H1 D r' H' h1' c1 acc' →
        ∃ n, n < m ∧ ∃ i r H h c acc, Inv B pins (L2.wipe σ vs) H s' ∧ tn i s'.heap ∧ (∀ b ∈ fp, H b = none) ∧ T n i c h ∧ r0.Le r ∧ Kq H0 H ∧ Sd C r1 H1 D r H h c acc := fun {s' σ' r' H' acc'} I' hl' hk' l' k' sd' => by
      have pin' : ∀ b ∈ fp, ∀ o, s3.heap.get? b = some o → s'.heap.get? b = some o ∧ H' b = none := fun b hb o e =>
        let z := I'.pin (b, o) (List.mem_append_right _ (List.mem_append_right _ (mem_pinsAt hb e)))
        ⟨z.1, z.2.1⟩
      refine ⟨m', hm, i + 1, r', H', h1', c1, acc', wipe_weak I'.unpinned hl' hk', Tu.keep _ _ _ st3 fun b hb o e => (pin' b hb o e).1, fun b hb => ?_, ht', l.trans l', (k.trans k1.q).trans k', sd'⟩
      obtain ⟨o, e, _⟩ := Tu.obj _ _ st3 b hb
      exact (pin' b hb o e).2
    cases htr : truth tv ht1' with
    | none => rw [htr] at e2; cases e2
    | some b =>
      rw [htr] at e2
      have TT := (ht c).run _ s4 σ4 H4 (fun d H5 => d = b ∧ ∃ r5, r.Le r5 ∧ Kp r H4 r5 H5 ∧ RH C r5 H5 ht1') I4 ⟨r, h, s', tv, ht1', b, sd3.rh, rs4, e1, htr, fun r5 H5 l5 k5 rh5 => ⟨rfl, r5, l5, k5, rh5⟩⟩
      rw [hx] at TT
      refine thnF TT fun d s5 ⟨H5, I5, ed, r5, l5, k5, rh5⟩ => ?_
      subst ed
      obtain ⟨d1, d2⟩ := k5.ap D _ sd3.at_ sd3.nd
      have sd5 : Sd C r1 H1 D r5 H5 ht1' c acc := ⟨sd3.le.trans l5, sd3.kp.trans k5, rh5, d2, d1, sd3.rp.mono l5 k5⟩
      cases d with
      | false =>
        cases (show VR.one c ht1' = .one c1 h1' from e2)
        show (if false = true then _ else _)
        rw [if_neg (by decide)]
        exact fin I5 hl4 (fun j v z => (hk4 j v z).1) l5 k5.q sd5
      | true =>
        show (if true = true then _ else _)
        rw [if_pos rfl]
        have e2 : ev p call inner c s' ht1' = .one c1 h1' := e2
        refine tl _ s5 σ4 r1 H1 r5 H5 ht1' c acc s' c1 h1' _ h1 I5 sd5 (rs4.mono l5 k5) e2 (Nat.le_trans (td.len _ _ _ _ ht') hl) fun s6 r6 H6 acc6 I6 l6 k6 sd6 => ?_
        refine fin I6 (by rw [wipe_length]; exact hl4) (fun j v z => ?_) (l5.trans l6) (k5.q.trans k6) sd6
        obtain ⟨z1, z2⟩ := hk4 j v z
        rw [wipe_out fun z => z2 (hv' j z)]
        exact z1
end
end
end VI
namespace VI
open PySem PySem.Spec PyProof.Rows L2
noncomputable section
section
variable {C : Ct} {B : Cx} {p : Prog} {call : Nat → U → VH → VR} {D : Addr}
def StartR (P : Program) (w : World) (A : Around) (e : Expr) (j : Nat) : Prop := ∀ (R : Result → Shared → Prop) (s : Shared) (it acc : Value) (env : Env), codeAny (model P w) A (.compLoop e j it acc env) R s →
  wpAny (model P w) A (pyIter it) (fun it' s' => codeAny (model P w) A (.compLoop e j it' acc env) R s') NoE s → codeAny (model P w) A (.compStart e j it acc env) R s
variable {e : Expr} {j : Nat} {tg it1 : Expr} {ifs : List Expr} {t : VT} {ea ec inner : VE} {vs vs' : List Nat} {bd : Bdy}
/-- a clause within a clause -/
theorem tail_mid {y : Bool} (hx : B.xe = fun _ _ => False) (hc : B.calm = true) (LR : LoopR B.prog B.w B.A e (j + 1) tg ifs bd) (SR : StartR B.prog B.w B.A e (j + 1)) (hi : SI C B y tg it1 (ev p call ea)) (hg : SG C B y tg t) (ht : STs C B ifs (ev p call ec)) (tl : TailOk C B D vs' (ev p call inner) bd)
    (hv : ∀ i ∈ t.slots, i ∈ vs) (hv' : ∀ i ∈ vs', i ∈ vs) (gr : Grows (ev p call (.cif ec inner))) : TailOk C B D vs (ev p call (wips vs (.cfor t ea (.cif ec inner)))) (bdyM B.prog B.w B.A e j it1) := by
  intro pins s σ r1 H1 r H h c acc sv cf hf Q h1 I sd rs e0 hl fin
  rw [ev_wips] at e0
  obtain ⟨u1, hh, e2, e3⟩ := bind_one (show VR.bind (ev p call ea .nil (unsetL sv vs) h) (fun x h => x.walk h (.bad 122) (fun z => cforV t (fun c σ h => ev p call (.cif ec inner) c σ h) z c (unsetL sv vs) h) (fun k => cforL t (fun c σ h => ev p call (.cif ec inner) c σ h) k 100000 0 c (unsetL sv vs) h)) = .one cf hf from e0)
  rw [walk_eq] at e3
  have n : walkOf u1 hh ≠ none := fun z => by rw [z] at e3; cases e3
  have st := hi.run pins s σ H (fun J H4 => ∃ r4, r.Le r4 ∧ Kp r H r4 H4 ∧ RH C r4 H4 hh ∧ Wk C y J r4 H4 u1 hh) I ⟨r, h, unsetL sv vs, u1, hh, sd.rh, (rs.wipe _).2, e2, n, fun r4 H4 J l4 k4 rh4 wk => ⟨r4, l4, k4, rh4, wk⟩⟩
  rw [hx] at st
  refine thnF st fun v s1 g1 => ?_
  refine thnF g1 fun itv s2 ⟨it, fp, tn, J, H4, ei, I2, Tu, st0, ff, r4, l4, k4, rh4, wk⟩ => ?_
  subst ei
  obtain ⟨d1, d2⟩ := k4.ap D _ sd.at_ sd.nd
  have sd4 : Sd C r1 H1 D r4 H4 hh c acc := ⟨sd.le.trans l4, sd.kp.trans k4, rh4, d2, d1, sd.rp.mono l4 k4⟩
  have lp : ∀ {T : Nat → Nat → U → VH → Prop} {m0 : Nat}, Todo C y J r4 H4 t (ev p call (.cif ec inner)) (unsetL sv vs) cf hf T → T m0 0 c hh → codeAny (model B.prog B.w) B.A (.compLoop e (j + 1) (.ref it) (.ref D) B.env) (fun r s' => match r with | .ok _ => Q s' | .error _ => False) s2 := fun td t0 =>
    loop_ok hx hc LR Tu st0 ff hg ht tl hv hv' td t0 h1 (wipe_weak I2 rfl fun j v z => (wipe_some z).1) sd4 (rs.mono l4 k4) hl fun s' r' H' acc' I' l' k' sd' => fin s' r' H' acc' I' (l4.trans l') (k4.q.trans k') sd'
  have lp2 : codeAny (model B.prog B.w) B.A (.compLoop e (j + 1) (.ref it) (.ref D) B.env) (fun r s' => match r with | .ok _ => Q s' | .error _ => False) s2 := by
    cases hw : walkOf u1 hh with
    | none => exact absurd hw n
    | some z =>
      rw [hw] at e3
      cases z with
      | inl s0 => exact lp (todoV gr (wk.1 s0 hw)) ⟨s0, Left.zero s0, rfl, e3⟩
      | inr q0 => exact lp (todoL gr (wk.2 q0 hw)) e3
  exact SR _ s2 (.ref it) (.ref D) B.env lp2 (Tu.self B.A 0 s2 _ _ st0 lp2)
end
section
variable {C : Ct} {X : Cx} {p : Prog} {call : Nat → U → VH → VR} {w : Nat} {elt t0 i0 t1 i1 t2 i2 : Expr} {f0 f1 f2 : List Expr} {scope : Scope} {own : List (Str × Nat)} {pos spos py : Pos} {v0 v1 v2 : VT} {a0 c0 a1 c1 a2 c2 ee : VE} {i : Nat} {y : Str} {vs1 vs2 : List Nat}
abbrev innE (a1 c1 a2 c2 ee : VE) (v1 v2 : VT) (vs1 vs2 : List Nat) : VE := wips vs1 (.cfor v1 a1 (.cif c1 (wips vs2 (.cfor v2 a2 (.cif c2 (.cend ee))))))
theorem lc3_core {y0 y1 y2 : Bool} {pins : List (Addr × Obj)} {s : Shared} {σ : L2.St} {H : Hp} {Q : VK} {pos' : Pos} {use : Option (Value → PySem.Sem Unit)} {Qf : Value → Shared → Prop} {r : Rf} {h h' : VH} {sv : VS} {cf : U}
    (hc : X.calm = true) (hN : X.N.Nodup) (I : Inv X pins σ H s) (hi : SI C X y0 t0 i0 (ev p call a0)) (ok : BlkOk X.N X.env.scope scope own) (hv : ∀ i ∈ v0.slots, i ∈ own.map (·.2)) (hv1 : ∀ i ∈ v1.slots, i ∈ vs1) (hv2 : ∀ i ∈ v2.slots, i ∈ vs2) (ho1 : ∀ i ∈ vs1, i ∈ own.map (·.2)) (ho2 : ∀ i ∈ vs2, i ∈ vs1)
    (hg0 : ∀ (s : Shared) (H : Hp) (Cc : Addr) (cl : List (Str × Addr)) (fp : List Addr), SG C (X.blk s H scope (compEnvC scope cl Cc X.env) fp) y0 t0 v0)
    (ht0 : ∀ (s : Shared) (H : Hp) (Cc : Addr) (cl : List (Str × Addr)) (fp : List Addr), STs C (X.blk s H scope (compEnvC scope cl Cc X.env) fp) f0 (ev p call c0))
    (hi1 : ∀ (s : Shared) (H : Hp) (Cc : Addr) (cl : List (Str × Addr)) (fp : List Addr), SI C (X.blk s H scope (compEnvC scope cl Cc X.env) fp) y1 t1 i1 (ev p call a1))
    (hg1 : ∀ (s : Shared) (H : Hp) (Cc : Addr) (cl : List (Str × Addr)) (fp : List Addr), SG C (X.blk s H scope (compEnvC scope cl Cc X.env) fp) y1 t1 v1)
    (ht1 : ∀ (s : Shared) (H : Hp) (Cc : Addr) (cl : List (Str × Addr)) (fp : List Addr), STs C (X.blk s H scope (compEnvC scope cl Cc X.env) fp) f1 (ev p call c1))
    (hi2 : ∀ (s : Shared) (H : Hp) (Cc : Addr) (cl : List (Str × Addr)) (fp : List Addr), SI C (X.blk s H scope (compEnvC scope cl Cc X.env) fp) y2 t2 i2 (ev p call a2))
    (hg2 : ∀ (s : Shared) (H : Hp) (Cc : Addr) (cl : List (Str × Addr)) (fp : List Addr), SG C (X.blk s H scope (compEnvC scope cl Cc X.env) fp) y2 t2 v2)
    (ht2 : ∀ (s : Shared) (H : Hp) (Cc : Addr) (cl : List (Str × Addr)) (fp : List Addr), STs C (X.blk s H scope (compEnvC scope cl Cc X.env) fp) f2 (ev p call c2))
    (he : ∀ (s : Shared) (H : Hp) (Cc : Addr) (cl : List (Str × Addr)) (fp : List Addr), SE C (X.blk s H scope (compEnvC scope cl Cc X.env) fp) elt (ev p call ee))
    (hs : ∀ x, foldedSetIterable i0 X.env x = pure x) (hs1 : ∀ env x, foldedSetIterable i1 env x = pure x) (hs2 : ∀ env x, foldedSetIterable i2 env x = pure x)
    (rh : RH C r H h) (rs : RS r H sv σ) (e1 : ev p call (wips (own.map (·.2)) (.cfor v0 a0 (.cif c0 (innE a1 c1 a2 c2 ee v1 v2 vs1 vs2)))) .nil sv h = .one cf h') (hl : cf.len ≤ 100000) (fin : FinQ C r H h' cf Q)
    (hRR : ∀ D Cc s' m H', Inv X pins σ H' s' → Q (.ref D) H' → s'.heap.Ns Cc m → FpOk X pins H' Cc → compPost (model X.prog X.w) X.A X.xe use Qf (.ref D) Cc (.ok .next) s') :
    wpAny (model X.prog X.w) X.A (comprehension (lc3E elt t0 i0 t1 i1 t2 i2 f0 f1 f2 scope pos) scope X.env pos' (newList []) false (eval i0 X.env) use) Qf X.xe s := by
  have hfree : ∀ z ∈ scope.names, z.2 = .free → ∃ c, X.env.cells.lookup z.1 = some c := fun z hz ez => (ok.free z hz ez).elim (fun q => I.ok.has _ (.inl q)) (fun q => I.ok.has _ (.inr q))
  rw [ev_wips] at e1
  obtain ⟨u1, h1, e2, e3⟩ := bind_one (show VR.bind (ev p call a0 .nil (unsetL sv (own.map (·.2))) h) (fun x h => x.walk h (.bad 122) (fun z => cforV v0 (fun c σ h => ev p call (.cif c0 (innE a1 c1 a2 c2 ee v1 v2 vs1 vs2)) c σ h) z .nil (unsetL sv (own.map (·.2))) h) (fun k => cforL v0 (fun c σ h => ev p call (.cif c0 (innE a1 c1 a2 c2 ee v1 v2 vs1 vs2)) c σ h) k 100000 0 .nil (unsetL sv (own.map (·.2))) h)) = .one cf h' from e1)
  rw [walk_eq] at e3
  have nw : walkOf u1 h1 ≠ none := fun z => by rw [z] at e3; cases e3
  refine wpAny_comprehension_free (use := use) rfl hs (closure_ok hfree) ok.kind (fun z hz ez => by rw [ok.uniq z hz, ez])
    (thn (hi.run pins s σ H (fun J H2 => ∃ r1, r.Le r1 ∧ Kp r H r1 H2 ∧ RH C r1 H2 h1 ∧ Wk C y0 J r1 H2 u1 h1) I ⟨r, h, unsetL sv (own.map (·.2)), u1, h1, rh, (rs.wipe _).2, e2, nw, fun r1 H2 J l1 k1 rh1 wk => ⟨r1, l1, k1, rh1, wk⟩⟩) fun xv s1 gx => thn gx fun itv s2 g2 => ?_)
  obtain ⟨it, fp, tn, J, H2, ei, I2, Tu, st2, ff, r1, l1, k1, rh1, wk⟩ := g2
  subst ei
  refine wpAny_newObj_type (newEnv_comp ?_) (by show 0 ≤ sizeLine; decide)
  generalize eD : s2.heap.objs.size = D
  have hDn : H2 D = none := I2.hok.fresh (Nat.le_of_eq eD)
  generalize es3 : ({ s2 with heap := s2.heap.push { cls := .type "list", data := .seq ([] : List Value).toArray } } : Shared) = s3
  have I3 : Inv X pins σ (upd H2 D (.lst [])) s3 := by
    rw [← es3]
    refine I2.laid (t' := s2.toks) (fun b o z => Heap.get?_push_of_some _ z) (Nat.le_of_eq eD) ⟨Nat.zero_le _, [], 0, .nil, ?_⟩
    rw [← eD]; exact Heap.get?_push_size _ rfl
  have eh : s3.heap = s2.heap.push { cls := .type "list", data := .seq ([] : List Value).toArray } := by rw [← es3]
  have lt2 : ∀ b ∈ fp, b < s2.heap.objs.size := fun b hb => let ⟨o, z, _⟩ := Tu.obj _ _ st2 b hb; Heap.lt_size z
  have ff3 : ∀ b ∈ fp, FpOk X pins (upd H2 D (.lst [])) b ∧ b < s3.heap.objs.size := fun b hb => by
    have q := lt2 b hb
    refine ⟨⟨?_, (ff b hb).2⟩, by rw [eh, Heap.size_push]; exact Nat.lt_succ_of_lt q⟩
    rw [upd_ne (by rw [← eD]; exact Nat.ne_of_lt q)]; exact (ff b hb).1
  have I4 := block_start I3 ok hN ff3
  have st3 : tn 0 s3.heap := Tu.keep _ _ _ st2 fun b _ o z => by rw [eh]; exact Heap.get?_push_of_some _ z
  have nfp : ∀ b ∈ fp, (upd H2 D (.lst [])) b = none := fun b hb => (ff3 b hb).1.1
  have pg0 := hg0 s3 (upd H2 D (.lst [])) s3.heap.objs.size (cellsFrom (s3.heap.objs.size + 1) scope.names (cloFrom X.env.cells scope.names [])) fp
  have pt0 := ht0 s3 (upd H2 D (.lst [])) s3.heap.objs.size (cellsFrom (s3.heap.objs.size + 1) scope.names (cloFrom X.env.cells scope.names [])) fp
  have pi1 := hi1 s3 (upd H2 D (.lst [])) s3.heap.objs.size (cellsFrom (s3.heap.objs.size + 1) scope.names (cloFrom X.env.cells scope.names [])) fp
  have pg1 := hg1 s3 (upd H2 D (.lst [])) s3.heap.objs.size (cellsFrom (s3.heap.objs.size + 1) scope.names (cloFrom X.env.cells scope.names [])) fp
  have pt1 := ht1 s3 (upd H2 D (.lst [])) s3.heap.objs.size (cellsFrom (s3.heap.objs.size + 1) scope.names (cloFrom X.env.cells scope.names [])) fp
  have pi2 := hi2 s3 (upd H2 D (.lst [])) s3.heap.objs.size (cellsFrom (s3.heap.objs.size + 1) scope.names (cloFrom X.env.cells scope.names [])) fp
  have pg2 := hg2 s3 (upd H2 D (.lst [])) s3.heap.objs.size (cellsFrom (s3.heap.objs.size + 1) scope.names (cloFrom X.env.cells scope.names [])) fp
  have pt2 := ht2 s3 (upd H2 D (.lst [])) s3.heap.objs.size (cellsFrom (s3.heap.objs.size + 1) scope.names (cloFrom X.env.cells scope.names [])) fp
  have pe := he s3 (upd H2 D (.lst [])) s3.heap.objs.size (cellsFrom (s3.heap.objs.size + 1) scope.names (cloFrom X.env.cells scope.names [])) fp
  show codeAny _ _ (.compStart (lc3E elt t0 i0 t1 i1 t2 i2 f0 f1 f2 scope pos) 0 (.ref it) (.ref D) (compEnvC scope (cellsFrom (s3.heap.objs.size + 1) scope.names (cloFrom X.env.cells scope.names [])) s3.heap.objs.size X.env)) (compPost (model X.prog X.w) X.A X.xe use Qf (.ref D) s3.heap.objs.size) { s3 with heap := pushCells (s3.heap.push { cls := .type "dict", data := .dict #[] }) scope.names }
  generalize ece : compEnvC scope (cellsFrom (s3.heap.objs.size + 1) scope.names (cloFrom X.env.cells scope.names [])) s3.heap.objs.size X.env = ce at I4 pg0 pt0 pi1 pg1 pt1 pi2 pg2 pt2 pe ⊢
  have cL : ce.locals = s3.heap.objs.size := by subst ece; rfl
  generalize eH3 : upd H2 D (.lst []) = H3 at I3 I4 pg0 pt0 pi1 pg1 pt1 pi2 pg2 pt2 pe nfp ff3
  generalize es4 : ({ s3 with heap := pushCells (s3.heap.push { cls := .type "dict", data := .dict #[] }) scope.names } : Shared) = s4 at I4 ⊢
  have st4 : tn 0 s4.heap := Tu.keep _ _ _ st3 fun b _ o z => by rw [← es4]; exact pushCells_keeps _ _ _ _ (Heap.get?_push_of_some _ z)
  have fB : ∀ b ∈ fp, FpOk (X.blk s3 H3 scope ce fp) [] H3 b := fun b hb => ⟨nfp b hb, (I4.ok.exf b hb).1, I4.ok.exfs b hb, .inl hb, fun x c z => (I4.ok.exf b hb).2 x c z, fun q hq => absurd (show q ∈ ([] : List (Addr × Obj)) ++ [] from hq) (by simp)⟩
  have nd1 : ∀ k, r1.ρ k ≠ some D := fun k z => by obtain ⟨o, q⟩ := rh1.live k D z; rw [hDn] at q; cases q
  have kq3 : Kq H2 H3 := by rw [← eH3]; exact (Kp.new (r := r1) hDn).q
  have sd0 : Sd C r1 H2 D r1 H3 h1 .nil [] := by
    rw [← eH3]
    exact ⟨Rf.Le.refl _, Kp.new hDn, rh1.more (new_keeps hDn), nd1, upd_same, rfl⟩
  have rs3 : RS r1 H3 sv σ := (rs.mono l1 k1).monoq (Rf.Le.refl _) kq3
  have B2 : TailOk C (X.blk s3 H3 scope ce fp) D [] (ev p call (.cend ee)) (bdyE X.prog X.w X.A elt) := tail_end rfl pe []
  have B1 : TailOk C (X.blk s3 H3 scope ce fp) D vs2 (ev p call (wips vs2 (.cfor v2 a2 (.cif c2 (.cend ee))))) (bdyM X.prog X.w X.A (lc3E elt t0 i0 t1 i1 t2 i2 f0 f1 f2 scope pos) 1 i2) :=
    tail_mid rfl hc (loopE turn3_2) (fun R s it acc env => start3_2) pi2 pg2 pt2 B2 hv2 (fun _ z => nomatch z) (grows_if (grows_end _))
  have B0 : TailOk C (X.blk s3 H3 scope ce fp) D vs1 (ev p call (innE a1 c1 a2 c2 ee v1 v2 vs1 vs2)) (bdyM X.prog X.w X.A (lc3E elt t0 i0 t1 i1 t2 i2 f0 f1 f2 scope pos) 0 i1) :=
    tail_mid rfl hc (loopM turn3_1 hs2) (fun R s it acc env => start3_1) pi1 pg1 pt1 B1 hv1 ho2 (grows_if (grows_wips (grows_for (grows_if (grows_end _))) _))
  have gr0 : Grows (ev p call (.cif c0 (innE a1 c1 a2 c2 ee v1 v2 vs1 vs2))) := grows_if (grows_wips (grows_for (grows_if (grows_wips (grows_for (grows_if (grows_end _))) _))) _)
  have lp : ∀ {T : Nat → Nat → U → VH → Prop} {m0 : Nat}, Todo C y0 J r1 H3 v0 (ev p call (.cif c0 (innE a1 c1 a2 c2 ee v1 v2 vs1 vs2))) (unsetL sv (own.map (·.2))) cf h' T → T m0 0 .nil h1 →
      codeAny (model X.prog X.w) X.A (.compLoop (lc3E elt t0 i0 t1 i1 t2 i2 f0 f1 f2 scope pos) 0 (.ref it) (.ref D) ce) (compPost (model X.prog X.w) X.A X.xe use Qf (.ref D) s3.heap.objs.size) s4 := fun td t0' =>
    loop_ok (B := X.blk s3 H3 scope ce fp) rfl hc (loopM turn3_0 hs1) Tu st4 fB pg0 pt0 B0 hv ho1 td t0' hDn I4 sd0 rs3 hl fun s6 r6 H6 acc6 I6 l6 k6 sd6 => by
      have I7 : Inv X pins σ H6 s6 := I3.call' (ch := fp) I6.os I6.base I6.hok I6.bare fun b hb => ⟨(ff3 b hb).1.2.2.2.1, (ff3 b hb).1.2.1, (ff3 b hb).1.2.2.2.2.1, (ff3 b hb).1.2.2.2.2.2⟩
      have nC : H6 s3.heap.objs.size = none := by
        have z : H6 ce.locals = none := I6.free
        rw [cL] at z; exact z
      obtain ⟨m, hn, _⟩ := I6.loc
      have hn : s6.heap.Ns ce.locals m := hn
      rw [cL] at hn
      exact hRR D s3.heap.objs.size s6 m H6 I7 (fin r1 H2 l1 k1 r6 H6 D acc6 sd6.le sd6.kp sd6.rh sd6.nd hDn sd6.at_ sd6.rp) hn (I3.fpOk (Nat.le_refl _) nC)
  have lp2 : codeAny (model X.prog X.w) X.A (.compLoop (lc3E elt t0 i0 t1 i1 t2 i2 f0 f1 f2 scope pos) 0 (.ref it) (.ref D) ce) (compPost (model X.prog X.w) X.A X.xe use Qf (.ref D) s3.heap.objs.size) s4 := by
    cases hw : walkOf u1 h1 with
    | none => exact absurd hw nw
    | some z =>
      rw [hw] at e3
      cases z with
      | inl s0 => exact lp (todoV gr0 fun i r H l k => wk.1 s0 hw i r H l (kq3.trans k)) ⟨s0, Left.zero s0, rfl, e3⟩
      | inr q0 => exact lp (todoL gr0 fun i r H h z l k => wk.2 q0 hw i r H h z l (kq3.trans k)) e3
  exact codeAny_compStart_list lp2 (Tu.self X.A 0 _ _ _ st4 lp2)
def tLc3 (C : Ct) (i : Nat) (f : VS → VH → VR) : TS := fun D σ H => ∃ r h sv cf h', RH C r H h ∧ RS r H sv σ ∧ f sv h = .one cf h' ∧ cf.len ≤ 100000 ∧ FinQ C r H h' cf (fun v H1 => D.nx (σ.set i (some v)) H1)
theorem ps_lc3 {y0 y1 y2 : Bool} (hc : X.calm = true) (hN : X.N.Nodup) (hy : X.N[i]? = some y) (hyl : X.env.scope.names.lookup y = some .local) (hi : SI C X y0 t0 i0 (ev p call a0)) (ok : BlkOk X.N X.env.scope scope own) (hv : ∀ i ∈ v0.slots, i ∈ own.map (·.2)) (hv1 : ∀ i ∈ v1.slots, i ∈ vs1) (hv2 : ∀ i ∈ v2.slots, i ∈ vs2) (ho1 : ∀ i ∈ vs1, i ∈ own.map (·.2)) (ho2 : ∀ i ∈ vs2, i ∈ vs1)
    (hg0 : ∀ (s : Shared) (H : Hp) (Cc : Addr) (cl : List (Str × Addr)) (fp : List Addr), SG C (X.blk s H scope (compEnvC scope cl Cc X.env) fp) y0 t0 v0)
    (ht0 : ∀ (s : Shared) (H : Hp) (Cc : Addr) (cl : List (Str × Addr)) (fp : List Addr), STs C (X.blk s H scope (compEnvC scope cl Cc X.env) fp) f0 (ev p call c0))
    (hi1 : ∀ (s : Shared) (H : Hp) (Cc : Addr) (cl : List (Str × Addr)) (fp : List Addr), SI C (X.blk s H scope (compEnvC scope cl Cc X.env) fp) y1 t1 i1 (ev p call a1))
    (hg1 : ∀ (s : Shared) (H : Hp) (Cc : Addr) (cl : List (Str × Addr)) (fp : List Addr), SG C (X.blk s H scope (compEnvC scope cl Cc X.env) fp) y1 t1 v1)
    (ht1 : ∀ (s : Shared) (H : Hp) (Cc : Addr) (cl : List (Str × Addr)) (fp : List Addr), STs C (X.blk s H scope (compEnvC scope cl Cc X.env) fp) f1 (ev p call c1))
    (hi2 : ∀ (s : Shared) (H : Hp) (Cc : Addr) (cl : List (Str × Addr)) (fp : List Addr), SI C (X.blk s H scope (compEnvC scope cl Cc X.env) fp) y2 t2 i2 (ev p call a2))
    (hg2 : ∀ (s : Shared) (H : Hp) (Cc : Addr) (cl : List (Str × Addr)) (fp : List Addr), SG C (X.blk s H scope (compEnvC scope cl Cc X.env) fp) y2 t2 v2)
    (ht2 : ∀ (s : Shared) (H : Hp) (Cc : Addr) (cl : List (Str × Addr)) (fp : List Addr), STs C (X.blk s H scope (compEnvC scope cl Cc X.env) fp) f2 (ev p call c2))
    (he : ∀ (s : Shared) (H : Hp) (Cc : Addr) (cl : List (Str × Addr)) (fp : List Addr), SE C (X.blk s H scope (compEnvC scope cl Cc X.env) fp) elt (ev p call ee))
    (hsw : swapsWith (lc3E elt t0 i0 t1 i1 t2 i2 f0 f1 f2 scope pos) (some (.Name y py)) spos.line X.env = pure true := by rfl) (hs : ∀ x, foldedSetIterable i0 X.env x = pure x := by intro _; rfl) (hs1 : ∀ env x, foldedSetIterable i1 env x = pure x := by intro _ _; rfl) (hs2 : ∀ env x, foldedSetIterable i2 env x = pure x := by intro _ _; rfl) :
    PS X (.Assign [.Name y py] (lc3E elt t0 i0 t1 i1 t2 i2 f0 f1 f2 scope pos) spos) (tLc3 C i (ev p call (wips (own.map (·.2)) (.cfor v0 a0 (.cif c0 (innE a1 c1 a2 c2 ee v1 v2 vs1 vs2)))) .nil)) := by
  refine ⟨fun pins s σ H D I ⟨r, h, sv, cf, h', rh, rs, e1, hl, fin⟩ => ?_⟩
  rw [exec_Assign_Name_used _ _ _ _ hsw]
  refine wpAny_bind (wpAny_standAt (wpAny_bind ?_))
  show wpAny _ X.A (do let _ ← comprehension (lc3E elt t0 i0 t1 i1 t2 i2 f0 f1 f2 scope pos) scope X.env (firstIterPos [⟨t0, i0, f0, 0⟩, ⟨t1, i1, f1, 0⟩, ⟨t2, i2, f2, 0⟩] pos) (newList []) false (eval i0 X.env) (some (assign (.Name y py) X.env))) _ _ s
  refine wpAny_bind (thn (lc3_core (Qf := fun _ s' => SP X pins D .next s') hc hN I hi ok hv hv1 hv2 ho1 ho2 hg0 ht0 hi1 hg1 ht1 hi2 hg2 ht2 he hs hs1 hs2 rh rs e1 hl fin fun L K s6 m H6 I6 q hn ff => ?_) fun _ s' hq => wpAny_pure (wpAny_pure hq))
  show wpAny _ _ (assign (.Name y py) X.env (.ref L)) _ _ _
  refine wpAny_assign_Name (store_ok2 (v := V.ref L) I6 hN hy (.inl hyl) rfl (fun s7 I7 ⟨z, sb, hz⟩ => ?_) (.inr hyl))
  obtain ⟨g0, g1, g2, g3, g4, g5⟩ := ff
  have ne : K ≠ z := by
    rcases hz with q | q
    · rw [q]; exact g1
    · exact fun e => g4 y z q e.symm
  exact ⟨m, hn.sameBut sb ne, fun h8 sb8 => ⟨_, H6, I7.turned (t' := s7.toks) (fun b o hb e => (sb8.2 b hb).trans e) g0 g1 g3 g4 g5, q⟩⟩
theorem q_setLc3 {y0 y1 y2 : Bool} (hc : X.calm = true) (hN : X.N.Nodup) (hy : X.N[i]? = some y) (hyl : X.env.scope.names.lookup y = some .local) (hi : SI C X y0 t0 i0 (ev p call a0)) (ok : BlkOk X.N X.env.scope scope own) (hv : ∀ i ∈ v0.slots, i ∈ own.map (·.2)) (hv1 : ∀ i ∈ v1.slots, i ∈ vs1) (hv2 : ∀ i ∈ v2.slots, i ∈ vs2) (ho1 : ∀ i ∈ vs1, i ∈ own.map (·.2)) (ho2 : ∀ i ∈ vs2, i ∈ vs1)
    (hg0 : ∀ (s : Shared) (H : Hp) (Cc : Addr) (cl : List (Str × Addr)) (fp : List Addr), SG C (X.blk s H scope (compEnvC scope cl Cc X.env) fp) y0 t0 v0)
    (ht0 : ∀ (s : Shared) (H : Hp) (Cc : Addr) (cl : List (Str × Addr)) (fp : List Addr), STs C (X.blk s H scope (compEnvC scope cl Cc X.env) fp) f0 (ev p call c0))
    (hi1 : ∀ (s : Shared) (H : Hp) (Cc : Addr) (cl : List (Str × Addr)) (fp : List Addr), SI C (X.blk s H scope (compEnvC scope cl Cc X.env) fp) y1 t1 i1 (ev p call a1))
    (hg1 : ∀ (s : Shared) (H : Hp) (Cc : Addr) (cl : List (Str × Addr)) (fp : List Addr), SG C (X.blk s H scope (compEnvC scope cl Cc X.env) fp) y1 t1 v1)
    (ht1 : ∀ (s : Shared) (H : Hp) (Cc : Addr) (cl : List (Str × Addr)) (fp : List Addr), STs C (X.blk s H scope (compEnvC scope cl Cc X.env) fp) f1 (ev p call c1))
    (hi2 : ∀ (s : Shared) (H : Hp) (Cc : Addr) (cl : List (Str × Addr)) (fp : List Addr), SI C (X.blk s H scope (compEnvC scope cl Cc X.env) fp) y2 t2 i2 (ev p call a2))
    (hg2 : ∀ (s : Shared) (H : Hp) (Cc : Addr) (cl : List (Str × Addr)) (fp : List Addr), SG C (X.blk s H scope (compEnvC scope cl Cc X.env) fp) y2 t2 v2)
    (ht2 : ∀ (s : Shared) (H : Hp) (Cc : Addr) (cl : List (Str × Addr)) (fp : List Addr), STs C (X.blk s H scope (compEnvC scope cl Cc X.env) fp) f2 (ev p call c2))
    (he : ∀ (s : Shared) (H : Hp) (Cc : Addr) (cl : List (Str × Addr)) (fp : List Addr), SE C (X.blk s H scope (compEnvC scope cl Cc X.env) fp) elt (ev p call ee))
    (hsw : swapsWith (lc3E elt t0 i0 t1 i1 t2 i2 f0 f1 f2 scope pos) (some (.Name y py)) spos.line X.env = pure true := by rfl) (hs : ∀ x, foldedSetIterable i0 X.env x = pure x := by intro _; rfl) (hs1 : ∀ env x, foldedSetIterable i1 env x = pure x := by intro _ _; rfl) (hs2 : ∀ env x, foldedSetIterable i2 env x = pure x := by intro _ _; rfl) :
    SX C X p call w (.Assign [.Name y py] (lc3E elt t0 i0 t1 i1 t2 i2 f0 f1 f2 scope pos) spos) (.asg (.var i) (.comp (wips (own.map (·.2)) (.cfor v0 a0 (.cif c0 (innE a1 c1 a2 c2 ee v1 v2 vs1 vs2)))))) :=
  (PS.frz (ps_lc3 hc hN hy hyl hi ok hv hv1 hv2 ho1 ho2 hg0 ht0 hi1 hg1 ht1 hi2 hg2 ht2 he hsw hs hs1 hs2)).weak fun D σ H ⟨r, h, s, rh, rs, o⟩ => by
    obtain ⟨cf, h', e1, hl, o⟩ := asg_comp o
    exact ⟨r, h, s, cf, h', rh, rs, e1, hl, fin_frz rs o⟩
theorem q_setLc3H {y0 y1 y2 : Bool} (hc : X.calm = true) (hN : X.N.Nodup) (hy : X.N[i]? = some y) (hyl : X.env.scope.names.lookup y = some .local) (hi : SI C X y0 t0 i0 (ev p call a0)) (ok : BlkOk X.N X.env.scope scope own) (hv : ∀ i ∈ v0.slots, i ∈ own.map (·.2)) (hv1 : ∀ i ∈ v1.slots, i ∈ vs1) (hv2 : ∀ i ∈ v2.slots, i ∈ vs2) (ho1 : ∀ i ∈ vs1, i ∈ own.map (·.2)) (ho2 : ∀ i ∈ vs2, i ∈ vs1)
    (hg0 : ∀ (s : Shared) (H : Hp) (Cc : Addr) (cl : List (Str × Addr)) (fp : List Addr), SG C (X.blk s H scope (compEnvC scope cl Cc X.env) fp) y0 t0 v0)
    (ht0 : ∀ (s : Shared) (H : Hp) (Cc : Addr) (cl : List (Str × Addr)) (fp : List Addr), STs C (X.blk s H scope (compEnvC scope cl Cc X.env) fp) f0 (ev p call c0))
    (hi1 : ∀ (s : Shared) (H : Hp) (Cc : Addr) (cl : List (Str × Addr)) (fp : List Addr), SI C (X.blk s H scope (compEnvC scope cl Cc X.env) fp) y1 t1 i1 (ev p call a1))
    (hg1 : ∀ (s : Shared) (H : Hp) (Cc : Addr) (cl : List (Str × Addr)) (fp : List Addr), SG C (X.blk s H scope (compEnvC scope cl Cc X.env) fp) y1 t1 v1)
    (ht1 : ∀ (s : Shared) (H : Hp) (Cc : Addr) (cl : List (Str × Addr)) (fp : List Addr), STs C (X.blk s H scope (compEnvC scope cl Cc X.env) fp) f1 (ev p call c1))
    (hi2 : ∀ (s : Shared) (H : Hp) (Cc : Addr) (cl : List (Str × Addr)) (fp : List Addr), SI C (X.blk s H scope (compEnvC scope cl Cc X.env) fp) y2 t2 i2 (ev p call a2))
    (hg2 : ∀ (s : Shared) (H : Hp) (Cc : Addr) (cl : List (Str × Addr)) (fp : List Addr), SG C (X.blk s H scope (compEnvC scope cl Cc X.env) fp) y2 t2 v2)
    (ht2 : ∀ (s : Shared) (H : Hp) (Cc : Addr) (cl : List (Str × Addr)) (fp : List Addr), STs C (X.blk s H scope (compEnvC scope cl Cc X.env) fp) f2 (ev p call c2))
    (he : ∀ (s : Shared) (H : Hp) (Cc : Addr) (cl : List (Str × Addr)) (fp : List Addr), SE C (X.blk s H scope (compEnvC scope cl Cc X.env) fp) elt (ev p call ee))
    (hsw : swapsWith (lc3E elt t0 i0 t1 i1 t2 i2 f0 f1 f2 scope pos) (some (.Name y py)) spos.line X.env = pure true := by rfl) (hs : ∀ x, foldedSetIterable i0 X.env x = pure x := by intro _; rfl) (hs1 : ∀ env x, foldedSetIterable i1 env x = pure x := by intro _ _; rfl) (hs2 : ∀ env x, foldedSetIterable i2 env x = pure x := by intro _ _; rfl) :
    SX C X p call w (.Assign [.Name y py] (lc3E elt t0 i0 t1 i1 t2 i2 f0 f1 f2 scope pos) spos) (.asg (.var i) (.compH (wips (own.map (·.2)) (.cfor v0 a0 (.cif c0 (innE a1 c1 a2 c2 ee v1 v2 vs1 vs2)))))) :=
  (ps_lc3 hc hN hy hyl hi ok hv hv1 hv2 ho1 ho2 hg0 ht0 hi1 hg1 ht1 hi2 hg2 ht2 he hsw hs hs1 hs2).weak fun D σ H ⟨r, h, s, rh, rs, o⟩ => by
    obtain ⟨cf, h', e1, hl, o⟩ := asg_compH o
    exact ⟨r, h, s, cf, h', rh, rs, e1, hl, fin_mut rs o⟩
end
end
end VI
namespace VI
open PySem PySem.Spec PyProof.Rows L2
noncomputable section
/-! ### the program at a depth -/
abbrev CXn : CXT := fun _ _ _ _ _ _ => False
theorem passN {X : Cx} {E : XK} : Passes CXn X E := fun _ _ _ _ _ _ _ h => h.elim
/-- what is known of the program, to the depth that k stands for. T: the defaults with which a def may be called -/
structure Lv (C : Ct) (T : List (Nat × List V)) (P : Program) (w : World) (K : PySem.W.Frag) (mg : Str → Option Value) (base : Heap) (p : Prog) (call : Nat → U → VH → VR) (k : Nat) : Prop where
  fn : ∀ f A dvs, C.G f = some A → (dvs = [] ∨ (f, dvs) ∈ T) → ∃ fd ps n ds, FnOk P w K mg base CXn k A fd ps (spU C n (call f)) ∧ Vals dvs ds ∧ Binds K fd ps ds ∧ ∀ s h u h', call f s h = .one u h' → s.len = n
  keep : ∀ f A, C.G f = some A → PySem.W.keepIn K (.ref A) = true
  mks : ∀ c A, C.CA c = some A → ∃ f, Mk K A f ∧ C.G (p.init c) = some f
  cls : ∀ c A, C.CA c = some A → InsOk K A
structure Ev (C : Ct) (T : List (Nat × List V)) (X : Cx) (p : Prog) (call : Nat → U → VH → VR) (k : Nat) : Prop where
  P : X.prog = C.P
  w : X.w = C.w
  calm : X.calm = true
  room : Room (k + 2) X.A
  nd : X.N.Nodup
  xe : X.xe = fun _ _ => False
  lv : Lv C T X.prog X.w X.K X.mg X.base p call k
section
variable {C : Ct} {T : List (Nat × List V)} {X : Cx} {p : Prog} {call : Nat → U → VH → VR} {k : Nat} {a b c e o : Expr} {es : List Expr} {ea eb el eo : VE} {pos pp apos kp kq p1 p2 q1 q2 : Pos} {x y m : Str} {n f : Nat} {A : Addr}
theorem Ev.xc (E : Ev C T X p call k) : XC C X (k + 2) := ⟨E.P, E.w, E.calm, E.room, E.nd⟩
theorem Ev.blk (E : Ev C T X p call k) (s : Shared) (H : Hp) (scope : Scope) (ce : Env) (fp : List Addr) : Ev C T (X.blk s H scope ce fp) p call k := ⟨E.P, E.w, E.calm, E.room, E.nd, rfl, E.lv⟩
theorem Ev.own (E : Ev C T X p call k) : PassesOwn (model X.prog X.w) X.A X.env X.xe := by rw [E.xe]; exact PassesOwn.never
theorem Ev.fnc (E : Ev C T X p call k) (h : C.G f = some A) : CallR X (.ref A) (rC C (call f)) := by
  obtain ⟨fd, ps, n, ds, F, hd, hb, hl⟩ := E.lv.fn f A [] h (.inl rfl)
  cases hd
  exact call_fn F (E.room.mono (by omega)) hb passN hl
theorem Ev.call2 (E : Ev C T X p call k) (h : C.G f = some A) : CallR (in2 X) (.ref A) (rC C (call f)) := by
  obtain ⟨fd, ps, n, ds, F, hd, hb, hl⟩ := E.lv.fn f A [] h (.inl rfl)
  cases hd
  exact call_fn (X := in2 X) F E.room.in1.in1 hb passN hl
theorem Ev.mkc (E : Ev C T X p call k) {cl : Nat} (h : C.CA cl = some A) : CallR X (.ref A) (rC C (mkU p call cl)) ∧ PySem.W.keepIn X.K (.ref A) = true := by
  obtain ⟨f, M, hf⟩ := E.lv.mks cl A h
  obtain ⟨fd, ps, n, ds, F, hd, hb, hl⟩ := E.lv.fn _ f [] hf (.inl rfl)
  cases hd
  exact ⟨c_make h M F (E.room.mono (by omega)) hb passN hl, M.kp⟩
theorem Ev.units (E : Ev C T X p call k) : X.A.units + 100 < cLine := by have := E.room.un; omega
/-! ### the rules as they are printed -/
theorem x_call (E : Ev C T X p call k) (hG : C.G n = some A) (hg : Gl X x) (hm : X.mg x = some (.ref A)) (ha : SL C X (e :: es) (ev p call el)) (hdb : (x == ("__debug__" : Str)) = false := by decide)
    (he : starEach (e :: es) X.env = (false, eval e X.env) :: starEach es X.env := by rfl) (hpl : (backTo pos (starEach es X.env)).any (·.1) = false := by rfl) : SE C X (.Call (.Name x pp) (e :: es) [] pos) (ev p call (.call n el)) :=
  r_call (E.fnc hG) hg hm (E.lv.keep n A hG) ha hdb he hpl
theorem x_callD {m : Nat} {ds : List U} {dvs : List V} (E : Ev C T X p call k) (hG : C.G n = some A) (hT : (n, dvs) ∈ T) (hU : ∀ r H, RpL r H (spD ds) dvs) (hm' : cntE el = some m) (hg : Gl X x) (hm : X.mg x = some (.ref A)) (ha : SL C X (e :: es) (ev p call el)) (hdb : (x == ("__debug__" : Str)) = false := by decide)
    (he : starEach (e :: es) X.env = (false, eval e X.env) :: starEach es X.env := by rfl) (hpl : (backTo pos (starEach es X.env)).any (·.1) = false := by rfl) : SE C X (.Call (.Name x pp) (e :: es) [] pos) (ev p call (.call n (appE el ds))) := by
  obtain ⟨fd, ps, n', dsv, F, hd, hb, hl⟩ := E.lv.fn n A dvs hG (.inr hT)
  exact r_callD (call_fnD F (E.room.mono (by omega)) hb hd passN hl) hm' hU hg hm (E.lv.keep n A hG) ha hdb he hpl
theorem x_mk {cl : Nat} (E : Ev C T X p call k) (hC : C.CA cl = some A) (hg : Gl X x) (hm : X.mg x = some (.ref A)) (ha : SL C X (e :: es) (ev p call el)) (hdb : (x == ("__debug__" : Str)) = false := by decide)
    (he : starEach (e :: es) X.env = (false, eval e X.env) :: starEach es X.env := by rfl) (hpl : (backTo pos (starEach es X.env)).any (·.1) = false := by rfl) : SE C X (.Call (.Name x pp) (e :: es) [] pos) (ev p call (.mk cl el)) :=
  r_mk (E.mkc hC).1 hg hm (E.mkc hC).2 ha hdb he hpl
/-- a def that a name holds -/
theorem x_callv {i : Nat} (E : Ev C T X p call k) (hN : X.N[i]? = some x) (hv : Vis X.env.scope x) (ha : SL C X (e :: es) (ev p call el)) (hdb : (x == ("__debug__" : Str)) = false := by decide) (hcd : (x == ("__classdict__" : Str)) = false := by decide)
    (he : starEach (e :: es) X.env = (false, eval e X.env) :: starEach es X.env := by rfl) (hpl : (backTo pos (starEach es X.env)).any (·.1) = false := by rfl) : SE C X (.Call (.Name x pp) (e :: es) [] pos) (ev p call (.callv (.var i) el)) := fun c => by
  refine ⟨fun pins s0 σ H Q I ⟨r, h, s, u, h', rh, rs, e0, q⟩ => ?_⟩
  obtain ⟨y, h1, e1, e2⟩ := bind_one e0
  obtain ⟨z, h2, e3, e4⟩ := bind_one e2
  have e1 : s.get i (.bad 102) (fun u => VR.one u h) = .one y h1 := e1
  rw [s.get_eq] at e1
  cases hgt : s.get? i with
  | none => rw [hgt] at e1; cases e1
  | some y0 =>
    rw [hgt] at e1
    cases e1
    obtain ⟨v, ev0, pv⟩ := rs.get hgt
    have e4 : callV call y z h2 = .one u h' := e4
    cases y with
    | gf g =>
      obtain ⟨A, rfl, hA⟩ := (show ∃ a, v = .ref a ∧ r.G g = some a from pv)
      rw [rh.G] at hA
      refine wpAny_Call_Name_kw (thn ((pe_var (pos := pp) hN hv hdb hcd).run pins s0 σ H (fun w H1 => w = .ref A ∧ H1 = H) I ⟨.ref A, ev0, rfl, rfl⟩) fun u1 s1 ⟨w1, H1, I1, r1, q1⟩ => ?_)
      obtain ⟨rfl, rfl⟩ := q1
      cases r1
      refine PySem.W.callWith_K (h₀ := X.base) I.ok.mod.kin (E.lv.keep g A hA) (thn ((ha c).run pos pins s1 σ _ (fun vs H2 => ∃ r2, r.Le r2 ∧ Kp r H1 r2 H2 ∧ RH C r2 H2 h2 ∧ RpL r2 H2 z vs) I1 ⟨r, _, s, z, h2, rh, rs, e3, fun r2 H2 vs l2 k2 rh2 p2 => ⟨r2, l2, k2, rh2, p2⟩⟩) fun us s2 ⟨vs, H2, I2, rv, r2, l2, k2, rh2, p2⟩ => ⟨I2.kIn, ?_⟩) he hpl
      exact E.fnc hA pins s2 σ H2 vs us Q I2 rv ⟨r2, h2, z, u, h', rh2, p2, e4, fun r3 H3 v3 l3 k3 rh3 p3 => q r3 H3 v3 (l2.trans l3) (k2.trans k3) rh3 p3⟩
    | clo g cp => exact False.elim pv
    | _ => cases e4
/-- a constant of the module -/
theorem x_gint {i : Int} (hg : Gl X y) (hm : ∃ t, X.mg y = some (.int i t)) (hd : (y == ("__debug__" : Str)) = false := by decide) : SE C X (.Name y pos) (ev p call (.cst (.int i))) := let ⟨_, h⟩ := hm; r_gint hg h hd
theorem x_gstr {z : Str} (hg : Gl X y) (hm : ∃ t, X.mg y = some (.str z t)) (h : StrIs n z) (hd : (y == ("__debug__" : Str)) = false := by decide) : SE C X (.Name y pos) (ev p call (.cst (.str n))) := let ⟨_, h2⟩ := hm; r_gstr hg h2 h hd
theorem x_methOk (E : Ev C T X p call k) (h : ∀ cl A g, C.CA cl = some A → p.meth cl n = g + 1 → ∃ f, Meth X.K A m f ∧ C.G g = some f) : MethOk C X p call m n := fun cl A g hA hm => by
  obtain ⟨f, M, hf⟩ := h cl A g hA hm
  exact ⟨f, (E.lv.cls cl A hA).cl, M, E.fnc hf⟩
end
end
end VI
namespace VI
open PySem PySem.Spec PyProof.Rows L2
noncomputable section
section
variable {C : Ct} {T : List (Nat × List V)} {X : Cx} {p : Prog} {call : Nat → U → VH → VR} {k w : Nat} {a b c e o : Expr} {es : List Expr} {ea eb el eo : VE} {pos pp pt px py p1 p2 : Pos} {x y m : Str} {kt k2 : Nat}
theorem spine2 {r : Rf} {H : Hp} {z : U} {v1 v2 : V} {i j : Nat} {s : VS} {h : VH} {s' : VS} {vs : List V} (hs : RpL r H z vs) (e : asgT none (.cons (.var i) (.cons (.var j) .nil)) z s h some = some s') :
    ∃ u1 u2 v1 v2, vs = [v1, v2] ∧ Rp r H u1 v1 ∧ Rp r H u2 v2 ∧ s' = (s.set i u1).set j u2 := by
  cases z with
  | cons u1 q =>
    obtain ⟨v1, ws, rfl, h1, h2⟩ := (show ∃ y ys, vs = y :: ys ∧ Rp r H u1 y ∧ RpL r H q ys from hs)
    cases q with
    | cons u2 t =>
      obtain ⟨v2, xs, rfl, h3, h4⟩ := (show ∃ y ys, ws = y :: ys ∧ Rp r H u2 y ∧ RpL r H t ys from h2)
      cases t with
      | nil =>
        cases (show xs = [] from h4)
        cases (show some ((s.set i u1).set j u2) = some s' from e)
        exact ⟨u1, u2, v1, v2, rfl, h1, h3, rfl⟩
      | cons _ _ => cases e
      | _ => exact False.elim h4
    | nil => cases e
    | _ => exact False.elim h2
  | nil => cases e
  | _ => exact False.elim hs
/-- a, b = x, y, stored from the right -/
theorem q_par {i j : Nat} (E : Ev C T X p call k) (hi : X.N[i]? = some x) (hj : X.N[j]? = some y) (hij : i ≠ j) (hx : X.env.scope.names.lookup x = some .local) (hy : X.env.scope.names.lookup y = some .local) (ha : SL C X [a, b] (ev p call el))
    (hw : swappedStores [.Tuple [.Name x px, .Name y py] kt pt] (.Tuple [a, b] k2 p2) X.env = pure (some [x, y]) := by rfl)
    (hs : swapsWithSole [.Tuple [.Name x px, .Name y py] kt pt] (.Tuple [a, b] k2 p2) pos.line X.env = pure false := by rfl) :
    SX C X p call w (.Assign [.Tuple [.Name x px, .Name y py] kt pt] (.Tuple [a, b] k2 p2) pos) (.asg (.tup (.cons (.var i) (.cons (.var j) .nil))) (.tup el)) := by
  refine (ps_par E.calm E.nd hi hj hij hx hy (ha .nil) hw hs).weak fun D σ H ⟨r, h, s, rh, rs, o⟩ => ?_
  obtain ⟨u, h1, e1, o⟩ := ofR_out o
  obtain ⟨z, h2, e2, e1⟩ := bind_one (show VR.bind (ev p call el .nil s h) (fun s h => .one (mkT s) h) = .one u h1 from e1)
  cases e1
  have o : Out C r H D (asgT (.bad 130) (.cons (.var i) (.cons (.var j) .nil)) z s h1 (fun σ => .nx σ h1)) := o
  rw [asgT_eq] at o
  cases hx2 : asgT none (.cons (.var i) (.cons (.var j) .nil)) z s h1 some with
  | none => rw [hx2] at o; exact False.elim o
  | some s' =>
    rw [hx2] at o
    refine ⟨r, h, s, z, h1, rh, rs, e2, fun r1 H1 vs l1 k1 rh1 p1 => ?_⟩
    obtain ⟨u1, u2, v1, v2, rfl, g1, g2, rfl⟩ := spine2 (v1 := .non) (v2 := .non) p1 hx2
    exact ⟨v1, v2, rfl, o r1 H1 _ l1 k1 rh1 (((rs.mono l1 k1).set i g1).set j g2)⟩
/-- -1 -/
theorem r_negc {i : Int} {j : Nat} : SE C X (.UnaryOp .USub (.Constant (.int i) j p1) pos) (ev p call (.cst (.int (-i)))) := fun c =>
  (pe_un un_neg pe_int).weak fun σ H Q ⟨r, h, s, u, h', rh, rs, e, q⟩ => by
    cases (show VR.one (.int (-i)) h = .one u h' from e)
    exact ⟨i, rfl, q r H _ (Rf.Le.refl r) (Kp.refl H) rh rfl⟩
/-- a name of the def's own -/
theorem vv (i : Nat) {z : Str} {ps : Pos} (hN : X.N[i]? = some z := by rfl) (hv : Vis X.env.scope z := by first | exact Or.inl rfl | exact Or.inr (Or.inl rfl) | exact Or.inr (Or.inr rfl)) (hd : (z == ("__debug__" : Str)) = false := by decide) (hcd : (z == ("__classdict__" : Str)) = false := by decide) : SE C X (.Name z ps) (ev p call (.var i)) := r_var hN hv hd hcd
/-- nothing is said of what is not run -/
theorem q_dead {sts : List Stmt} : SXs C X p call w sts .raise := ⟨fun pins s σ H D I ⟨r, h, sv, rh, rs, o⟩ => False.elim o⟩
end
end
end VI
namespace VI
open PySem PySem.Spec PyProof.Rows L2
noncomputable section
/-! ### what the head tells -/
/-- isinstance, told by the text as it stands -/
def isiB (cls : List Str) (p : Prog) (m : Nat) (us : PySem.W.Frag → List Value) (K : PySem.W.Frag) : Bool :=
  decide (PySem.W.kitAny K (.type "NoneType") (us K) = some false) && (decide (PySem.W.kitAny K (.type "bool") (us K) = some (bit m 3)) && (decide (PySem.W.kitAny K (.type "int") (us K) = some (bit m 1)) && (decide (PySem.W.kitAny K (.type "str") (us K) = some (bit m 4)) &&
    (decide (PySem.W.kitAny K (.type "list") (us K) = some (bit m 8)) && (decide (PySem.W.kitAny K (.type "tuple") (us K) = some (bit m 16)) && (decide (PySem.W.kitAny K (.type "dict") (us K) = some (bit m 32)) &&
      cls.zipIdx.all fun q => decide (PySem.W.kitAny K (.ref (He.ga K q.1)) (us K) = some (bit m (p.sub q.2)))))))))
def insB (x : Str) (K : PySem.W.Frag) : Bool := (He.Fa.cls x).ok K && (decide (PySem.W.findIn K (.ref (He.ga K x)) "__class__" = some (some (.builtin "object.__class__"))) && (decide (PySem.W.specialIn K (.builtin "object.__class__") "__get__" = some (some (.builtin "getset_descriptor.__get__"))) &&
  (decide (PySem.W.takesIn K (.builtin "object.__class__") = some true) && decide (PySem.W.mroIn K (He.ga K x) (.type "object") = some true))))
theorem ins_of {K : PySem.W.Frag} {x : Str} (h : insB x K = true) : InsOk K (He.ga K x) := by
  obtain ⟨h1, h⟩ := He.ba h
  obtain ⟨h2, h⟩ := He.ba h
  obtain ⟨h3, h⟩ := He.ba h
  obtain ⟨h4, h5⟩ := He.ba h
  exact ⟨He.cls_ok h1, of_decide_eq_true h2, of_decide_eq_true h3, of_decide_eq_true h4, of_decide_eq_true h5⟩
/-- the text's own addresses -/
def ctOf (fn : List He.DefD) (cls : List Str) (P : Program) (w : World) (K : PySem.W.Frag) : Ct := ⟨fun f => (fn[f]?).map fun d => He.fAd K d.at_, fun c => (cls[c]?).map (He.ga K), P, w⟩
/-- all that is told: the facts by names; ex: what is asked of classes -/
structure Nm (fa : List He.Fa) (fn : List He.DefD) (ex : PySem.W.Frag → Bool) (K : PySem.W.Frag) (mg : Str → Option Value) : Prop where
  h : ∃ h : Heap, K.In h ∧ h.Ns mainGlobals mg
  c : He.SaysD fa fn K
  ex : ex K = true
section
variable {fa : List He.Fa} {fn : List He.DefD} {ex : PySem.W.Frag → Bool} {K : PySem.W.Frag} {mg : Str → Option Value} {cls : List Str} {p : Prog} {P : Program} {w : World}
theorem Nm.glo (n : Nm fa fn ex K mg) (i : Nat) {x : Str} (h : fa[i]? = some (.glo x) := by rfl) : mg x = some (.ref (He.ga K x)) := let ⟨_, X, G⟩ := n.h; He.glo_ok X G (n.c.fact i h)
theorem Nm.free (n : Nm fa fn ex K mg) (i : Nat) {x : Str} (h : fa[i]? = some (.free x) := by rfl) : mg x = none := let ⟨_, X, G⟩ := n.h; He.free_ok X G (n.c.fact i h)
theorem Nm.int (n : Nm fa fn ex K mg) (i : Nat) {x : Str} {j : Int} (h : fa[i]? = some (.int x j) := by rfl) : ∃ t, mg x = some (.int j t) := let ⟨_, X, G⟩ := n.h; He.int_ok X G (n.c.fact i h)
theorem Nm.str (n : Nm fa fn ex K mg) (i : Nat) {x z : Str} (h : fa[i]? = some (.str x z) := by rfl) : ∃ t, mg x = some (.str z t) := let ⟨_, X, G⟩ := n.h; He.str_ok X G (n.c.fact i h)
theorem ctCA {c : Nat} {A : Addr} (h : (ctOf fn cls P w K).CA c = some A) : ∃ x, cls[c]? = some x ∧ A = He.ga K x := by
  have h : (cls[c]?).map (He.ga K) = some A := h
  cases e : cls[c]? with
  | none => rw [e] at h; cases h
  | some x => rw [e] at h; cases h; exact ⟨x, rfl, rfl⟩
theorem isi_of {m : Nat} {us : PySem.W.Frag → List Value} (h : isiB cls p m us K = true) (hi : ∀ c A, (ctOf fn cls P w K).CA c = some A → InsOk K A) : IsiTab (ctOf fn cls P w K) K p m (us K) := by
  obtain ⟨h1, h⟩ := He.ba h
  obtain ⟨h2, h⟩ := He.ba h
  obtain ⟨h3, h⟩ := He.ba h
  obtain ⟨h4, h⟩ := He.ba h
  obtain ⟨h5, h⟩ := He.ba h
  obtain ⟨h6, h⟩ := He.ba h
  obtain ⟨h7, h8⟩ := He.ba h
  refine ⟨of_decide_eq_true h1, of_decide_eq_true h2, of_decide_eq_true h3, of_decide_eq_true h4, of_decide_eq_true h5, of_decide_eq_true h6, of_decide_eq_true h7, fun c A hA => ⟨?_, hi c A hA⟩⟩
  obtain ⟨x, hx, rfl⟩ := ctCA hA
  exact of_decide_eq_true (List.all_eq_true.mp h8 (x, c) (List.mem_iff_getElem?.mpr ⟨c, by rw [List.getElem?_zipIdx, hx]; simp⟩))
/-- a fact of a list of facts -/
theorem all_at {α : Type} {l : List α} {f : α → Bool} (h : l.all f = true) (i : Nat) {a : α} (e : l[i]? = some a := by rfl) : f a = true := List.all_eq_true.mp h a (List.mem_of_getElem? e)
theorem fld_of {X : Cx} {C : Ct} {x : Str} (hC : C = ctOf fn cls P w X.K) (h : ∀ c ∈ cls, (He.Fa.cls c).ok X.K = true ∧ (He.Fa.noat c x).ok X.K = true) : FldOk C X x := fun c A hA => by
  subst hC
  obtain ⟨y, hy, rfl⟩ := ctCA hA
  obtain ⟨h1, h2⟩ := h y (List.mem_of_getElem? hy)
  exact ⟨He.cls_ok h1, He.noat_ok h2⟩
end
/-! ### a def, one level up -/
section
variable {C : Ct} {T : List (Nat × List V)} {P : Program} {w : World} {K : PySem.W.Frag} {mg : Str → Option Value} {base : Heap} {p : Prog} {W d k i : Nat} {f : Addr} {fd : FuncData} {name qual : Str} {params : Arguments} {body : List Stmt} {scope : Scope} {dvs : List V} {kws : List (Str × V)} {N ps : List Str} {gc : Bool} {vb : VSt} {nl : Nat}
theorem callF_succ (hp : p.fn i = ⟨ps.length, nl, gc, vb⟩) (s : U) (h : VH) : callF p W (d + 1) i s h = (Bool.rec (.bad 129) (VRS.rec (fun _ h1 => leave gc h .non h1) (fun u h1 => leave gc h u h1) (fun _ _ => .bad 128) (fun _ _ => .bad 128) .bad (ex p (callF p W d) W vb (VS.of s nl) h)) (Nat.beq s.len ps.length) : VR) := by
  have g : ∀ q : Fn, q = p.fn i → callF p W (d + 1) i s h = (Fn.rec (motive := fun _ => VR) (fun np nl gc body => Bool.rec (.bad 129) (VRS.rec (fun _ h1 => leave gc h .non h1) (fun u h1 => leave gc h u h1) (fun _ _ => .bad 128) (fun _ _ => .bad 128) .bad (ex p (callF p W d) W body (VS.of s nl) h)) (Nat.beq s.len np)) q : VR) := fun q hq => by subst hq; rfl
  exact g _ hp.symm
theorem callF_len (hp : p.fn i = ⟨ps.length, nl, gc, vb⟩) {s : U} {h : VH} {u : U} {h' : VH} (e : callF p W (d + 1) i s h = .one u h') : s.len = ps.length ∧ (VRS.rec (fun _ h1 => leave gc h .non h1) (fun u h1 => leave gc h u h1) (fun _ _ => .bad 128) (fun _ _ => .bad 128) .bad (ex p (callF p W d) W vb (VS.of s nl) h) : VR) = .one u h' := by
  rw [callF_succ hp] at e
  cases hb : Nat.beq s.len ps.length with
  | false => rw [hb] at e; cases e
  | true => rw [hb] at e; exact ⟨nat_beq_iff.mp hb, e⟩
theorem fn_up (F : FunD K name qual params body scope dvs kws f fd) (S : FnScope N ps scope) (hp : p.fn i = ⟨ps.length, nl, gc, vb⟩) (hN : N.length = ps.length + nl) (hP : P = C.P) (hw : w = C.w) (lv : Lv C T P w K mg base p (callF p W d) k)
    (hb : ∀ (cdv : Value) (A : Around) (outer : List Env) (s : Shared) (H : Hp) (E : XK), Ev C T (cxOf CXn P w K mg base N qual scope f cdv A outer s H E).nox p (callF p W d) k → SXs C (cxOf CXn P w K mg base N qual scope f cdv A outer s H E).nox p (callF p W d) W body vb) :
    FnOk P w K mg base CXn (k + 3) f fd ps (spU C ps.length (callF p W (d + 1) i)) := by
  refine F.ok S (fun vs H Q E h => h.1) fun cdv A outer s H vs Q E hr ⟨hl, r, h, s0, u, h', rh, hs, e, fo⟩ => ?_
  obtain ⟨_, e⟩ := callF_len hp e
  have ev : Ev C T (cxOf CXn P w K mg base N qual scope f cdv A outer s H E).nox p (callF p W d) k := ⟨hP, hw, rfl, hr, S.nd, rfl, lv⟩
  obtain ⟨t, g1, g2⟩ := body_ok (n := 0) (gc := gc) (nl := nl) (hb cdv A outer s H E ev) ⟨r, h, s0, u, h', rh, hs, e, fo⟩
  refine ⟨t, PSs.nox g1, ?_⟩
  have e2 : L2.start N vs = vs.map some ++ List.replicate nl none := by
    unfold L2.start
    rw [hN, hl]
    congr 2
    omega
  rw [e2]
  exact g2
/-- nothing is promised at depth 0 -/
theorem fn_0 (F : FunD K name qual params body scope dvs kws f fd) {n : Nat} (hl : n = ps.length) : FnOk P w K mg base CXn k f fd ps (spU C n (callF p W 0 i)) :=
  ⟨fun vs H Q E h => h.1.trans hl, fun A outer s H args us vs Q E hr e0 hb hv ⟨_, r, h, s0, u, h', _, _, e, _⟩ => by cases e⟩
end
end
end VI
namespace VI
open PySem PySem.Spec PyProof.Rows L2
noncomputable section
/-! ### a def run once, in a call of one's own choice (a law: nothing is shown yet, so repr may be asked) -/
theorem run_once {P : Program} {w : World} {K : PySem.W.Frag} {mg : Str → Option Value} {base : Heap} {kk : Nat} {fA : Addr} {fdA : FuncData} {nameA qualA : Str} {pa : Arguments} {bodyA : List Stmt} {scA : Scope} {dvA : List V} {kwA : List (Str × V)} {N ps : List Str} {A : Around} {outer : List Env} {s0 : Shared} {H0 : Hp} {ar : Args} {us : List Value} {vs : List V} {Q : VK} {E : XK}
    (F : FunD K nameA qualA pa bodyA scA dvA kwA fA fdA) (S : FnScope N ps scA) (room : Room (kk + 1) A) (en : Env0 P w K mg base A outer s0 H0) (bind : BindsTo s0 fdA ar (ps.zip us)) (rv : Vals vs us) (hl : vs.length = ps.length)
    (main : ∀ cdv : Value, Room kk (A.deeper (envOfC qualA scA s0.heap.objs.size fA cdv)) → ∃ t, PSs (cxOf CXn P w K mg base N qualA scA fA cdv A outer s0 H0 E) bodyA t ∧ t { nx := fun _ H' => Q .non H', rt := Q } (L2.start N vs) H0) :
    codeAny (model P w) A (.call (.ref fA) ar) (CR CXn outer P w H0 s0 Q E) s0 := by
  obtain ⟨oc, od, dV, kV, doc, pm, an, cdv, ct, osl, rfl, lk, code, _, _⟩ := F.ex
  have kin : K.In s0.heap := en.mod.kin.keeps fun b o z => (en.bs b o z).1
  have nol : s0.heap.NoLimit := en.mod.nolimit.keeps fun b o z => (en.bs b o z).1
  have kinds : ∀ q ∈ ps.zip us, scA.names.lookup q.1 = some .local ∨ (scA.names.lookup q.1 = some .cell ∧ ((cellsFrom (s0.heap.objs.size + 1) scA.names []).lookup q.1).isSome = true) := by
    rintro ⟨n, v⟩ hq
    exact (S.par n (List.of_mem_zip hq).1).imp_right fun z => ⟨z, PySem.W.cellsFrom_some _ _ _ (.inl z)⟩
  refine codeAny_call_function room.depth (kin _ _ lk) rfl S.co S.gen rfl (PySem.W.codeRec_of kin code) (bind _ _ _ _ ?_)
  refine wpAny_newFunctionEnv_cells S.kind kinds fun env ee s1 x => ?_
  subst ee
  refine ⟨nol.keeps x.toInCall.keep, codeAny_func ?_⟩
  obtain ⟨t, run, q⟩ := main cdv (room.deeper _)
  have I := inv_start (CX := CXn) (E := E) S room.hd en hl rv x
  refine wpAny_mono (run.run [] s1 (L2.start N vs) H0 _ I q) (fun fl s2 z => ?_) fun _ _ z => z
  cases fl with
  | ret u => obtain ⟨v, σ2, H2, J, r, q⟩ := z; exact ⟨v, H2, J.os, J.bare, J.base, J.hok, r, q⟩
  | next => obtain ⟨σ2, H2, J, q⟩ := z; exact ⟨.non, H2, J.os, J.bare, J.base, J.hok, rfl, q⟩
  | brk => obtain ⟨_, _, _, q⟩ := z; exact False.elim q
  | cont => obtain ⟨_, _, _, q⟩ := z; exact False.elim q
/-- what a law is to keep, over its script alone -/
def LawOk (P : Program) (w : World) (K : PySem.W.Frag) (mg : Str → Option Value) (fA : Addr) : Prop := ∀ (base : Heap) (s : Shared) (H : Hp) (a : Addr) (ns : List Int), K.In base → base.Ns mainGlobals mg → L2.Only H → SqL K H a (ns.map V.int) → Env0 P w K mg base callerA [] s H →
  codeAny (model P w) callerA (.call (.ref fA) ⟨[.ref a], []⟩) (CR CXn [] P w H s (fun v _ => v = .bl true) fun _ _ _ => False) s
/-- from the law's promise, at the heap behind the top -/
theorem law_runs {P : Program} {w : World} {K : PySem.W.Frag} {mg mb : Str → Option Value} {fA a : Addr} {s : Shared} {vs : List Value} {ns : List Int} (kin : K.In s.heap) (hns : s.heap.Ns mainGlobals mg) (hb : s.heap.Ns builtinsNs mb) (hbb : ∀ x : Str, x ≠ "__name__" → mb x = bootBuiltins x) (nol : s.heap.NoLimit) (hg : s.gens = #[])
    (ha : s.heap.get? a = some { cls := .type "list", data := .seq vs.toArray }) (hi : IntsAre vs ns) (hz : ns.length ≤ sizeLine) (law : LawOk P w K mg fA) :
    codeAny (model P w) callerA (.call (.ref fA) ⟨[.ref a], []⟩) (fun r s' => r = .ok (.ret (.bool true)) ∧ OldK s.heap s'.heap ∧ s'.os = s.os ∧ AllBare s'.gens) s := by
  have rv := vals_ints hi
  have hlen := hi.length
  have main : ∀ H : Hp, L2.Only H → SqL K H a (ns.map V.int) → HOk P w H s.heap → (∀ b, H b ≠ none → b = a) → (H a ≠ none → K.lookup a = none) →
      codeAny (model P w) callerA (.call (.ref fA) ⟨[.ref a], []⟩) (fun r s' => r = .ok (.ret (.bool true)) ∧ OldK s.heap s'.heap ∧ s'.os = s.os ∧ AllBare s'.gens) s := by
    intro H hO hS hok only free
    have get : ∀ {b : Addr} {o : Obj}, s.heap.get? b = some o → H b = none → (hidT s.heap H).get? b = some o := fun z n => hidT_get z n
    have nodict : ∀ {b : Addr} {o : Obj} {es : Array DictEntry} {ep : Nat}, s.heap.get? b = some o → o.data = .dict es ep → H b = none := by
      intro b o es ep z dd
      by_cases hn : H b = none
      · exact hn
      · have eb := only b hn
        rw [eb, ha] at z
        cases z
        cases (show Data.seq vs.toArray _ = Data.dict es ep from dd)
    have ns' : ∀ {b : Addr} {m : Str → Option Value}, s.heap.Ns b m → (hidT s.heap H).Ns b m := by
      rintro b m ⟨o, es, ep, z, dd, q⟩
      exact ⟨o, es, ep, get z (nodict z dd), dd, q⟩
    have kin' : K.In (hidT s.heap H) := by
      intro b o z
      refine get (kin b o z) ?_
      by_cases hn : H b = none
      · exact hn
      · have eb := only b hn
        subst eb
        rw [free hn] at z; cases z
    have md : L2.Mod K mg (hidT s.heap H) := ⟨kin', ns' hns, ⟨mb, ns' hb, hbb⟩, let ⟨mc, z1, z2⟩ := nol; ⟨mc, ns' z1, z2⟩⟩
    have en : Env0 P w K mg (hidT s.heap H) callerA [] s H := ⟨rfl, md, fun b o z => of_hidT z, Nat.le_of_eq (hidT_size _ _), trivial, fun b z => absurd (show b ∈ ([] : List Addr) from z) (by simp), hok, .of_eq hg⟩
    refine codeAny_mono (law _ s H a ns kin' (ns' hns) hO hS en) fun r s2 z => ?_
    cases r with
    | error e => exact False.elim z
    | ok fl =>
      cases fl with
      | next => exact False.elim z
      | brk => exact False.elim z
      | cont => exact False.elim z
      | ret u =>
        obtain ⟨v, H2, os, bare, un, hok2, r2, q⟩ := z
        have q : v = .bl true := q
        subst q
        cases (show u = Value.bool true from r2)
        refine ⟨rfl, OldK.of_keep fun b o z => ?_, os, bare⟩
        rcases hO b with n | ⟨ob, xs, n⟩
        · exact un.keep b o z n (by intro y; exact absurd (show b ∈ ([] : List Addr) from y) (by simp)) (by simp)
        · have e1 := (hok b _ n).1
          rw [z] at e1
          cases e1
          exact (hok2 b _ (un.frzs b _ _ n)).1
  cases hk : K.lookup a with
  | some o =>
    have z := kin a o hk
    rw [ha] at z
    cases z
    exact main (fun _ => none) (fun _ => .inl rfl) (.inr ⟨_, vs.toArray, _, hk, rfl, rfl, rfl, by rw [List.size_toArray, hlen]; exact hz, by simpa using rv⟩) (fun b u n => by cases (show (none : Option HO) = some u from n)) (fun b n => absurd rfl n) fun n => absurd rfl n
  | none =>
    have hs : ∀ {b : Addr}, b ≠ a → (if b = a then some (HO.frz { cls := .type "list", data := .seq vs.toArray } (.lst (ns.map V.int))) else none) = none := fun n => if_neg n
    refine main (fun b => if b = a then some (.frz { cls := .type "list", data := .seq vs.toArray } (.lst (ns.map V.int))) else none) (fun b => ?_) (.inl (.inr ⟨{ cls := .type "list", data := .seq vs.toArray }, if_pos rfl⟩)) (fun b u n => ?_) (fun b n => ?_) fun _ => hk
    · by_cases hb : b = a
      · exact .inr ⟨_, _, if_pos hb⟩
      · exact .inl (hs hb)
    · by_cases hb : b = a
      · cases (if_pos hb).symm.trans n
        subst hb
        exact ⟨ha, by rw [List.length_map]; exact hz, vs, _, rv, ha⟩
      · cases (hs hb).symm.trans n
    · exact Classical.byContradiction fun hb => n (hs hb)
theorem walk_once {l : PySem.W.OpenLaw} {n : Nat} {q : Program} {loose : List Str} {XP : (Str → Option Value) → Heap → Prop} {YP : World → Heap → Prop} {d : DefRec} (hn : l.most = some n) (hz : n ≤ sizeLine) (hdf : d.params.defaults = [])
    (F : ∀ (w : World) (mg : Str → Option Value) (fA : Addr) (h : Heap), YP w h → h.Ns mainGlobals mg → mg d.name = some (.ref fA) → ∃ K : PySem.W.Frag, K.In h ∧ LawOk l.prog w K mg fA) : PySem.W.WalkO q loose XP YP l.row.toRowW d [] (fun f vs => PySem.call f vs) := by
  refine Att.attach_call hn hdf fun w s0 s1 mg mb fA o pm cd doc a vs ns G Y ho hd hcd hmg hobj hints hlen hg => ?_
  obtain ⟨K, kin, law⟩ := F w mg fA _ Y G.T.g hmg
  exact law_runs kin G.T.g G.T.b G.T.builtins G.T.nolimit hg hobj hints (Nat.le_trans hlen hz) law
end
end VI
namespace VI
open PySem PySem.Spec PyProof.Rows L2
noncomputable section
/-! ### to begin anew: no object is kept -/
/-- one and the same -/
def eqV : U → U → Bool
  | .non, b => (match b with | .non => true | _ => false)
  | .bl x, b => (match b with | .bl y => decide (x = y) | _ => false)
  | .int x, b => (match b with | .int y => decide (x = y) | _ => false)
  | .str x, b => (match b with | .str y => Nat.beq x y | _ => false)
  | .nil, b => (match b with | .nil => true | _ => false)
  | .cons x y, b => (match b with | .cons u v => eqV x u && eqV y v | _ => false)
  | .tup x y, b => (match b with | .tup u v => Nat.beq x u && eqV y v | _ => false)
  | .vl x y, b => (match b with | .vl u v => Nat.beq x u && eqV y v | _ => false)
  | .vd y, b => (match b with | .vd v => eqV y v | _ => false)
  | .ref x, b => (match b with | .ref y => Nat.beq x y | _ => false)
  | .gf x, b => (match b with | .gf y => Nat.beq x y | _ => false)
  | .clo x y, b => (match b with | .clo u v => Nat.beq x u && eqV y v | _ => false)
theorem eqV_ok : ∀ {a b : U}, eqV a b = true → a = b
  | .non, b, h => by cases b <;> first | rfl | cases h
  | .bl x, b, h => by cases b <;> first | (cases of_decide_eq_true h; rfl) | cases h
  | .int x, b, h => by cases b <;> first | (cases of_decide_eq_true h; rfl) | cases h
  | .str x, b, h => by cases b <;> first | (cases nat_beq_iff.mp h; rfl) | cases h
  | .nil, b, h => by cases b <;> first | rfl | cases h
  | .cons x y, b, h => by cases b <;> first | (obtain ⟨h1, h2⟩ := Bool.and_eq_true_iff.mp h; rw [eqV_ok h1, eqV_ok h2]) | cases h
  | .tup x y, b, h => by cases b <;> first | (obtain ⟨h1, h2⟩ := Bool.and_eq_true_iff.mp h; rw [nat_beq_iff.mp h1, eqV_ok h2]) | cases h
  | .vl x y, b, h => by cases b <;> first | (obtain ⟨h1, h2⟩ := Bool.and_eq_true_iff.mp h; rw [nat_beq_iff.mp h1, eqV_ok h2]) | cases h
  | .vd y, b, h => by
    cases b with
    | vd v => exact congrArg U.vd (eqV_ok h)
    | _ => cases h
  | .ref x, b, h => by cases b <;> first | (cases nat_beq_iff.mp h; rfl) | cases h
  | .gf x, b, h => by cases b <;> first | (cases nat_beq_iff.mp h; rfl) | cases h
  | .clo x y, b, h => by cases b <;> first | (obtain ⟨h1, h2⟩ := Bool.and_eq_true_iff.mp h; rw [nat_beq_iff.mp h1, eqV_ok h2]) | cases h
def noRef : U → Bool
  | .cons a b => noRef a && noRef b
  | .tup _ s => noRef s
  | .vl _ s => noRef s
  | .vd s => noRef s
  | .ref _ => false
  | _ => true
theorem RR.any {r r' : Rf} {H : Hp} (hG : r'.G = r.G) (hw : r'.w = r.w) : ∀ u : U, noRef u = true → (∀ v, Rp r H u v → Rp r' H u v) ∧ (∀ xs, RpL r H u xs → RpL r' H u xs)
  | .non, _ => ⟨fun _ h => h, fun _ h => h⟩
  | .bl _, _ => ⟨fun _ h => h, fun _ h => h⟩
  | .int _, _ => ⟨fun _ h => h, fun _ h => h⟩
  | .str _, _ => ⟨fun _ h => h, fun _ h => h⟩
  | .nil, _ => ⟨fun _ h => h, fun _ h => h⟩
  | .cons a b, n => by
    have n := Bool.and_eq_true_iff.mp (show (noRef a && noRef b) = true from n)
    exact ⟨fun _ h => h, fun xs ⟨x, ys, e, h1, h2⟩ => ⟨x, ys, e, (RR.any hG hw a n.1).1 x h1, (RR.any hG hw b n.2).2 ys h2⟩⟩
  | .tup d s, n => ⟨fun v ⟨a, o, xs, e, h1, h0, h2, h3⟩ => ⟨a, o, xs, e, h1, h0, (RR.any hG hw s n).2 xs h2, h3⟩, fun _ h => h⟩
  | .vl d s, n => ⟨fun v ⟨a, o, xs, e, h1, h2, h3⟩ => ⟨a, o, xs, e, h1, (RR.any hG hw s n).2 xs h2, h3⟩, fun _ h => h⟩
  | .vd s, n => ⟨fun v ⟨a, o, e, q⟩ => ⟨a, o, e, q.imp (fun ⟨kvs, h1, h2, h3⟩ => ⟨kvs, h1, h2, (RR.any hG hw s n).2 _ h3⟩) fun ⟨kvs, h1, h2, h3⟩ => ⟨kvs, by rw [hw]; exact h1, h2, (RR.any hG hw s n).2 _ h3⟩⟩, fun _ h => h⟩
  | .ref j, n => nomatch n
  | .gf f, _ => ⟨fun v ⟨a, e, h⟩ => ⟨a, e, by rw [hG]; exact h⟩, fun _ h => h⟩
  | .clo _ _, _ => ⟨fun _ h => h, fun _ h => h⟩
def noRefS : VS → Bool
  | .nil => true
  | .cons u t => noRef u && noRefS t
  | .un t => noRefS t
/-- s knows no more than s2 -/
def subS : VS → VS → Bool
  | .nil, .nil => true
  | .un t, .un t2 => subS t t2
  | .un t, .cons _ t2 => subS t t2
  | .cons u t, .cons u2 t2 => eqV u u2 && subS t t2
  | _, _ => false
theorem RS.sub {r : Rf} {H : Hp} : ∀ {s s2 : VS} {σ : L2.St}, subS s s2 = true → RS r H s2 σ → RS r H s σ
  | .nil, .nil, _, _, h => h
  | .un t, .un t2, x :: σ, e, h => RS.sub (s := t) (s2 := t2) (σ := σ) e h
  | .un t, .cons u t2, some v :: σ, e, ⟨_, h⟩ => RS.sub (s := t) (s2 := t2) (σ := σ) e h
  | .un t, .cons u t2, none :: σ, e, h => False.elim h
  | .un t, .cons u t2, [], e, h => False.elim h
  | .un t, .un t2, [], e, h => False.elim h
  | .cons u t, .cons u2 t2, some v :: σ, e, ⟨h1, h2⟩ => by
    have e := Bool.and_eq_true_iff.mp (show (eqV u u2 && subS t t2) = true from e)
    cases eqV_ok e.1
    exact ⟨h1, RS.sub e.2 h2⟩
  | .cons u t, .cons u2 t2, none :: σ, e, h => False.elim h
  | .cons u t, .cons u2 t2, [], e, h => False.elim h
  | .nil, .cons _ _, _, e, _ => nomatch e
  | .nil, .un _, _, e, _ => nomatch e
  | .cons _ _, .nil, _, e, _ => nomatch e
  | .cons _ _, .un _, _, e, _ => nomatch e
  | .un _, .nil, _, e, _ => nomatch e
def rf0 (C : Ct) : Rf := ⟨C.G, fun _ => none, C.w⟩
def vh0 : VH := .mk 0 .nil
theorem rh0 {C : Ct} {H : Hp} : RH C (rf0 C) H vh0 := ⟨rfl, rfl, (fun k o e => by cases (show (none : Option VO) = some o from e)), (fun j k a e => by cases (show (none : Option Addr) = some a from e)), (fun _ _ => rfl), (fun k a e => by cases (show (none : Option Addr) = some a from e))⟩
theorem RS.anew {C : Ct} {r : Rf} {H : Hp} (hG : r.G = C.G) (hw : r.w = C.w) : ∀ {s : VS} {σ : L2.St}, noRefS s = true → RS r H s σ → RS (rf0 C) H s σ
  | .nil, [], _, h => h
  | .nil, _ :: _, _, h => False.elim h
  | .un t, x :: σ, n, h => RS.anew hG hw (s := t) (σ := σ) n h
  | .un t, [], n, h => False.elim h
  | .cons u t, some v :: σ, n, ⟨h1, h2⟩ => by
    have n := Bool.and_eq_true_iff.mp (show (noRef u && noRefS t) = true from n)
    exact ⟨(RR.any (r' := rf0 C) hG.symm hw.symm u n.1).1 v h1, RS.anew hG hw n.2 h2⟩
  | .cons u t, none :: σ, n, h => False.elim h
  | .cons u t, [], n, h => False.elim h
/-- a run that goes on, with what is asked of its slots -/
def goesTo (s : VS) (x : VRS) : Bool := VRS.rec (fun s2 _ => subS s s2) (fun _ _ => false) (fun _ _ => false) (fun _ _ => false) (fun _ => false) x
/-- .. that gives True -/
def givesT (x : VRS) : Bool := VRS.rec (fun _ _ => false) (fun u _ => eqV u (.bl true)) (fun _ _ => false) (fun _ _ => false) (fun _ => false) x
section
variable {C : Ct} {X : Cx} {p : Prog} {call : Nat → U → VH → VR} {w : Nat} {D : Ends} {H : Hp} {f : SemS} {s s2 : VS} {σ : L2.St}
theorem out_goes {r : Rf} {x : VRS} (hs : noRefS s = true) (hG : r.G = C.G) (hw : r.w = C.w) (g : goesTo s x = true) (q : ∀ H' σ', Kq H H' → RS (rf0 C) H' s σ' → D.nx σ' H') : Out C r H D x := by
  cases x with
  | nx s2 h2 =>
    intro r' H' σ' l k rh rs
    exact q H' σ' k.q (RS.anew (l.G.trans hG) (l.w.trans hw) hs (RS.sub g rs))
  | rt u h => cases g
  | bk s2 h => cases g
  | ct s2 h => cases g
  | bad n => cases g
theorem out_true {r : Rf} {x : VRS} (g : givesT x = true) (q : ∀ H', D.rt (.bl true) H') : Out C r H D x := by
  cases x with
  | rt u h =>
    intro r' H' v l k rh rv
    have g := eqV_ok (show eqV u (.bl true) = true from g)
    subst g
    cases (show v = .bl true from rv)
    exact q H'
  | nx s2 h => cases g
  | bk s2 h => cases g
  | ct s2 h => cases g
  | bad n => cases g
theorem t_goes (rs : RS (rf0 C) H s2 σ) (hs : noRefS s = true) (g : goesTo s (f s2 vh0) = true) (q : ∀ H' σ', Kq H H' → RS (rf0 C) H' s σ' → D.nx σ' H') : tSt C f D σ H := ⟨rf0 C, vh0, s2, rh0, rs, out_goes hs rfl rfl g q⟩
theorem t_true (rs : RS (rf0 C) H s2 σ) (g : givesT (f s2 vh0) = true) (q : ∀ H', D.rt (.bl true) H') : tSt C f D σ H := ⟨rf0 C, vh0, s2, rh0, rs, out_true g q⟩
end
end
end VI
namespace VI
open PySem PySem.Spec PyProof.Rows L2
noncomputable section
/-! ### statements in a row -/
def blk : List VSt → VSt
  | [] => .nil
  | a :: l => .cons a (blk l)
def tChain (C : Ct) (p : Prog) (call : Nat → U → VH → VR) (w : Nat) (l : List VSt) (t : TS) : TS := l.foldr (fun a t => tSeq (tSt C (ex p call w a)) t) t
theorem chain_ok {C : Ct} {p : Prog} {call : Nat → U → VH → VR} {w : Nat} {t : TS} {D : Ends} : ∀ (l : List VSt) {r : Rf} {H : Hp} {h h' : VH} {s s' : VS} {σ : L2.St}, RH C r H h → RS r H s σ → ex p call w (blk l) s h = .nx s' h' →
    (∀ r' H' σ', r.Le r' → Kp r H r' H' → RH C r' H' h' → RS r' H' s' σ' → t D σ' H') → tChain C p call w l t D σ H
  | [], r, H, h, h', s, s', σ, rh, rs, e, q => by
    cases (show VRS.nx s h = .nx s' h' from e)
    exact q r H σ (Rf.Le.refl r) (Kp.refl H) rh rs
  | a :: l, r, H, h, h', s, s', σ, rh, rs, e, q => by
    have e : (VRS.rec (fun σ h => ex p call w (blk l) σ h) .rt .bk .ct .bad (ex p call w a s h) : VRS) = .nx s' h' := e
    show tSeq (tSt C (ex p call w a)) (tChain C p call w l t) D σ H
    refine ⟨r, h, s, rh, rs, ?_⟩
    cases hx : ex p call w a s h with
    | nx s1 h1 =>
      rw [hx] at e
      exact fun r1 H1 σ1 l1 k1 rh1 rs1 => chain_ok l rh1 rs1 e fun r2 H2 σ2 l2 k2 rh2 rs2 => q r2 H2 σ2 (l1.trans l2) (k1.trans k2) rh2 rs2
    | rt u h1 => rw [hx] at e; cases e
    | bk s1 h1 => rw [hx] at e; cases e
    | ct s1 h1 => rw [hx] at e; cases e
    | bad n => rw [hx] at e; cases e
theorem goes_nx {s : VS} {x : VRS} (g : goesTo s x = true) : ∃ s2 h2, x = .nx s2 h2 ∧ subS s s2 = true := by
  cases x with
  | nx s2 h2 => exact ⟨s2, h2, rfl, g⟩
  | rt u h => cases g
  | bk s2 h => cases g
  | ct s2 h => cases g
  | bad n => cases g
/-- statements in a row, begun anew -/
theorem chain_goes {C : Ct} {p : Prog} {call : Nat → U → VH → VR} {w : Nat} {t : TS} {D : Ends} {l : List VSt} {H : Hp} {s s2 : VS} {σ : L2.St} (rs : RS (rf0 C) H s2 σ) (hs : noRefS s = true) (g : goesTo s (ex p call w (blk l) s2 vh0) = true) (q : ∀ H' σ', Kq H H' → RS (rf0 C) H' s σ' → t D σ' H') : tChain C p call w l t D σ H := by
  obtain ⟨s3, h3, e, sb⟩ := goes_nx g
  exact chain_ok l rh0 rs e fun r' H' σ' l' k' rh' rs' => q H' σ' k'.q (RS.anew l'.G l'.w hs (RS.sub sb rs'))
def itemU (s : U) (i : Nat) : U := s.nth i .non (fun u => u)
theorem nthU_item {s a : U} {i : Nat} (h : nthU s i = some a) : itemU s i = a := by
  unfold itemU
  rw [nth_eq, h]
theorem nthU_lt : ∀ {s a : U} {i : Nat}, nthU s i = some a → i < s.len
  | .cons x t, a, 0, h => Nat.succ_pos _
  | .cons x t, a, i + 1, h => Nat.succ_lt_succ (nthU_lt (s := t) (i := i) h)
  | .nil, _, _, h => by cases h
  | .non, _, _, h => by cases h
  | .bl _, _, _, h => by cases h
  | .int _, _, _, h => by cases h
  | .str _, _, _, h => by cases h
  | .tup _ _, _, _, h => by cases h
  | .vl _ _, _, _, h => by cases h
  | .vd _, _, _, h => by cases h
  | .ref _, _, _, h => by cases h
  | .gf _, _, _, h => by cases h
  | .clo _ _, _, _, h => by cases h
theorem nthU_some : ∀ {s : U} {i : Nat}, i < s.len → ∃ a, nthU s i = some a
  | .cons x t, 0, h => ⟨x, rfl⟩
  | .cons x t, i + 1, h => nthU_some (s := t) (i := i) (Nat.lt_of_succ_lt_succ h)
  | .nil, _, h => absurd h (Nat.not_lt_zero _)
  | .non, _, h => absurd h (Nat.not_lt_zero _)
  | .bl _, _, h => absurd h (Nat.not_lt_zero _)
  | .int _, _, h => absurd h (Nat.not_lt_zero _)
  | .str _, _, h => absurd h (Nat.not_lt_zero _)
  | .tup _ _, _, h => absurd h (Nat.not_lt_zero _)
  | .vl _ _, _, h => absurd h (Nat.not_lt_zero _)
  | .vd _, _, h => absurd h (Nat.not_lt_zero _)
  | .ref _, _, h => absurd h (Nat.not_lt_zero _)
  | .gf _, _, h => absurd h (Nat.not_lt_zero _)
  | .clo _ _, _, h => absurd h (Nat.not_lt_zero _)
theorem noRef_nth : ∀ {s a : U} {i : Nat}, noRef s = true → nthU s i = some a → noRef a = true
  | .cons x t, a, 0, n, h => by cases (show some x = some a from h); exact (Bool.and_eq_true_iff.mp (show (noRef x && noRef t) = true from n)).1
  | .cons x t, a, i + 1, n, h => noRef_nth (s := t) (i := i) (Bool.and_eq_true_iff.mp (show (noRef x && noRef t) = true from n)).2 h
  | .nil, _, _, _, h => by cases h
  | .non, _, _, _, h => by cases h
  | .bl _, _, _, _, h => by cases h
  | .int _, _, _, _, h => by cases h
  | .str _, _, _, _, h => by cases h
  | .tup _ _, _, _, _, h => by cases h
  | .vl _ _, _, _, _, h => by cases h
  | .vd _, _, _, _, h => by cases h
  | .ref _, _, _, _, h => by cases h
  | .gf _, _, _, _, h => by cases h
  | .clo _ _, _, _, _, h => by cases h
/-- one turn of a loop, from the same slots each time -/
def turnG (p : Prog) (call : Nat → U → VH → VR) (w : Nat) (s : VS) (t : VT) (b : VSt) (a : U) : Bool := Option.rec false (fun s' => goesTo s (ex p call w b s' vh0)) (asgT none t a s vh0 some)
/-- a loop over data, each turn from the same slots -/
theorem for_goes {C : Ct} {p : Prog} {call : Nat → U → VH → VR} {w d : Nat} {sp : U} {t : VT} {b : VSt} {D : Ends} {H : Hp} {s s4 : VS} {σ : L2.St} {f : VS → VH → VR} (rs : RS (rf0 C) H s4 σ) (hs : noRefS s = true) (hsub : subS s s4 = true) (e : f s4 vh0 = .one (.vl d sp) vh0) (hn : noRef sp = true)
    (turns : ∀ k, k < sp.len → turnG p call w s t b (itemU sp k) = true) (q : ∀ H' σ', Kq H H' → RS (rf0 C) H' s σ' → D.nx σ' H') : tFor (tSI C false f) (tSG C false t) (tSt C (ex p call w b)) D σ H := by
  refine ⟨rf0 C, vh0, s4, _, vh0, rh0, rs, e, (by intro z; cases z), fun r1 H1 J l1 k1 rh1 wk => ?_⟩
  refine ⟨fun i m σ2 H2 => m = sp.len - i ∧ i ≤ sp.len ∧ Kq H1 H2 ∧ RS (rf0 C) H2 s σ2, ⟨_, rfl, Nat.zero_le _, Kq.refl _, (RS.sub hsub rs).monoq (Rf.Le.refl _) k1.q⟩, ?_⟩
  rintro i m σ2 H2 ⟨rfl, hi, kq, rs2⟩
  have a2 := wk.1 sp rfl i r1 H2 (Rf.Le.refl _) kq
  by_cases hlt : i < sp.len
  · obtain ⟨a, ha⟩ := nthU_some hlt
    obtain ⟨go, yl⟩ := a2.1 a ha
    refine .inr ⟨go, fun σ3 H3 => Kq H1 H3 ∧ RS (rf0 C) H3 s σ3, fun σ3 H3 ⟨z1, z2⟩ => ⟨_, by omega, rfl, by omega, z1, z2⟩, fun x H3 y => ?_⟩
    obtain ⟨kp, _, hx⟩ := yl x H3 y
    have hx : Rp r1 H3 a x := hx.no
    have hx0 : Rp (rf0 C) H3 a x := (RR.any (r := r1) (r' := rf0 C) l1.G.symm l1.w.symm a (noRef_nth hn ha)).1 x hx
    have rs3 : RS (rf0 C) H3 s σ2 := rs2.monoq (Rf.Le.refl _) kp.q
    have tt := turns i hlt
    rw [nthU_item ha] at tt
    have tt : (Option.rec false (fun s' => goesTo s (ex p call w b s' vh0)) (asgT none t a s vh0 some) : Bool) = true := tt
    cases hs' : asgT none t a s vh0 some with
    | none => rw [hs'] at tt; cases tt
    | some s' =>
      rw [hs'] at tt
      exact ⟨rf0 C, vh0, s, a, s', rh0, rs3, .inl hx0, hs', fun σ4 rs4 _ => t_goes rs4 hs tt fun H5 σ5 k5 rs5 => ⟨(kq.trans kp.q).trans k5, rs5⟩⟩
  · have hno : nthU sp i = none := by
      cases h : nthU sp i with
      | none => rfl
      | some a => exact absurd (nthU_lt h) hlt
    exact .inl ⟨a2.2 hno, q H2 σ2 (k1.q.trans kq) rs2⟩
end
end VI
namespace VI.K
open PySem PySem.Spec PyProof.Rows L2 VI
noncomputable section
def top (i : Nat) : Stmt := PySem.Challenge.pw_openagain_k05_known_rules.main.body.getD i (.Pass ⟨0, 0, 0, 0⟩)
def inCls (s : Stmt) (k : Nat) : Stmt := (match s with | .ClassDef (body := b) .. => b | _ => []).getD k (.Pass ⟨0, 0, 0, 0⟩)
theorem z0 : StrIs 10764007916138016340623357018381878484926717388140237205260222238679159552778379350162562789826662349700200066221652708414050842492300689345988503579451497382011 "abcdefghijklmnopqrstuvwxyz" := ⟨by kernel_rfl, by kernel_rfl, by kernel_rfl⟩
theorem z1 : StrIs 1014571355062824599660 "mark" := ⟨by kernel_rfl, by kernel_rfl, by kernel_rfl⟩
theorem z2 : StrIs 245366896 "to" := ⟨by kernel_rfl, by kernel_rfl, by kernel_rfl⟩
theorem z3 : StrIs 1069911635662458585205 "slot" := ⟨by kernel_rfl, by kernel_rfl, by kernel_rfl⟩
theorem z4 : StrIs 431008799260776 "arg" := ⟨by kernel_rfl, by kernel_rfl, by kernel_rfl⟩
theorem z5 : StrIs 461795089186932 "has" := ⟨by kernel_rfl, by kernel_rfl, by kernel_rfl⟩
theorem z6 : StrIs 222298228 "is" := ⟨by kernel_rfl, by kernel_rfl, by kernel_rfl⟩
theorem z7 : StrIs 1069911587283942768742 "same" := ⟨by kernel_rfl, by kernel_rfl, by kernel_rfl⟩
theorem z8 : StrIs 1069911604876130910309 "send" := ⟨by kernel_rfl, by kernel_rfl, by kernel_rfl⟩
theorem z9 : StrIs 996124628581273829489 "keep" := ⟨by kernel_rfl, by kernel_rfl, by kernel_rfl⟩
theorem z10 : StrIs 2321138542114600486164234356 "whens" := ⟨by kernel_rfl, by kernel_rfl, by kernel_rfl⟩
theorem z11 : StrIs 903890899416664506484 "acts" := ⟨by kernel_rfl, by kernel_rfl, by kernel_rfl⟩
theorem z12 : StrIs 39285181495248774281858523428554036346873228694650982 "has_value" := ⟨by kernel_rfl, by kernel_rfl, by kernel_rfl⟩
theorem z13 : StrIs 4583826543393248145051999130353766 "people" := ⟨by kernel_rfl, by kernel_rfl, by kernel_rfl⟩
theorem z14 : StrIs 2030996409970724528522788980 "holds" := ⟨by kernel_rfl, by kernel_rfl, by kernel_rfl⟩
theorem z15 : StrIs 2185738785754214935230939252 "parts" := ⟨by kernel_rfl, by kernel_rfl, by kernel_rfl⟩
theorem z16 : StrIs 1914939439053977768981168239 "begin" := ⟨by kernel_rfl, by kernel_rfl, by kernel_rfl⟩
theorem z17 : StrIs 4705521291157225747915760772055156 "states" := ⟨by kernel_rfl, by kernel_rfl, by kernel_rfl⟩
theorem z18 : StrIs 2243767326552796346879836276 "slots" := ⟨by kernel_rfl, by kernel_rfl, by kernel_rfl⟩
theorem z19 : StrIs 2224424596449297417606529140 "rules" := ⟨by kernel_rfl, by kernel_rfl, by kernel_rfl⟩
theorem z20 : StrIs 1106805137004023513189 "word" := ⟨by kernel_rfl, by kernel_rfl, by kernel_rfl⟩
theorem z21 : StrIs 2243767400339711069066887270 "state" := ⟨by kernel_rfl, by kernel_rfl, by kernel_rfl⟩
theorem z22 : StrIs 2108367533298887464111308915 "later" := ⟨by kernel_rfl, by kernel_rfl, by kernel_rfl⟩
theorem z23 : StrIs 2243767363446284494298939508 "spots" := ⟨by kernel_rfl, by kernel_rfl, by kernel_rfl⟩
theorem z24 : StrIs 2243767261989130516245250164 "seats" := ⟨by kernel_rfl, by kernel_rfl, by kernel_rfl⟩
theorem z25 : StrIs 1005348044598623076454 "lose" := ⟨by kernel_rfl, by kernel_rfl, by kernel_rfl⟩
theorem z26 : StrIs 3975354506740296182261774190379110 "arrive" := ⟨by kernel_rfl, by kernel_rfl, by kernel_rfl⟩
theorem z27 : StrIs 1014571372655002255461 "mend" := ⟨by kernel_rfl, by kernel_rfl, by kernel_rfl⟩
theorem z28 : StrIs 431008790872175 "ann" := ⟨by kernel_rfl, by kernel_rfl, by kernel_rfl⟩
theorem z29 : StrIs 120 "w" := ⟨by kernel_rfl, by kernel_rfl, by kernel_rfl⟩
theorem z30 : StrIs 113 "p" := ⟨by kernel_rfl, by kernel_rfl, by kernel_rfl⟩
theorem z31 : StrIs 435406839480441 "box" := ⟨by kernel_rfl, by kernel_rfl, by kernel_rfl⟩
theorem z32 : StrIs 435406839480419 "bob" := ⟨by kernel_rfl, by kernel_rfl, by kernel_rfl⟩
theorem z33 : StrIs 111 "n" := ⟨by kernel_rfl, by kernel_rfl, by kernel_rfl⟩
theorem z34 : StrIs 110 "m" := ⟨by kernel_rfl, by kernel_rfl, by kernel_rfl⟩
theorem z35 : StrIs 109 "l" := ⟨by kernel_rfl, by kernel_rfl, by kernel_rfl⟩
theorem z36 : StrIs 108 "k" := ⟨by kernel_rfl, by kernel_rfl, by kernel_rfl⟩
theorem z37 : StrIs 117 "t" := ⟨by kernel_rfl, by kernel_rfl, by kernel_rfl⟩
theorem z38 : StrIs 116 "s" := ⟨by kernel_rfl, by kernel_rfl, by kernel_rfl⟩
theorem z39 : StrIs 119 "v" := ⟨by kernel_rfl, by kernel_rfl, by kernel_rfl⟩
theorem z40 : StrIs 2321138606678261918731337844 "words" := ⟨by kernel_rfl, by kernel_rfl, by kernel_rfl⟩
theorem z41 : StrIs 1023794727099668889702 "name" := ⟨by kernel_rfl, by kernel_rfl, by kernel_rfl⟩
theorem z42 : StrIs 39659329125711092605777748091635463905776548280533093 "is_friend" := ⟨by kernel_rfl, by kernel_rfl, by kernel_rfl⟩
theorem z43 : StrIs 4543262072356571629796891589345396 "owners" := ⟨by kernel_rfl, by kernel_rfl, by kernel_rfl⟩
theorem z44 : StrIs 2127710346412712734826168436 "marks" := ⟨by kernel_rfl, by kernel_rfl, by kernel_rfl⟩
theorem bo_bool : bootBuiltins "bool" = some (.type "bool") := by decide +kernel
theorem bo_int : bootBuiltins "int" = some (.type "int") := by decide +kernel
theorem bo_list : bootBuiltins "list" = some (.type "list") := by decide +kernel
theorem bo_tuple : bootBuiltins "tuple" = some (.type "tuple") := by decide +kernel
theorem bo_len : bootBuiltins "len" = some (.builtin "len") := by decide +kernel
theorem bo_all : bootBuiltins "all" = some (.builtin "all") := by decide +kernel
theorem bo_str : bootBuiltins "str" = some (.type "str") := by decide +kernel
theorem bo_dict : bootBuiltins "dict" = some (.type "dict") := by decide +kernel
theorem bo_sorted : bootBuiltins "sorted" = some (.builtin "sorted") := by decide +kernel
def t0 : Stmt := (⟨_, by conv => lhs; whnf⟩ : { s : Stmt // top 3 = s }).1
def a0 : Arguments := (⟨_, by conv => lhs; whnf⟩ : { s : Arguments // defArgs t0 = s }).1
def b0 : List Stmt := (⟨_, by conv => lhs; whnf⟩ : { s : List Stmt // defBody t0 = s }).1
def s0 : Scope := (⟨_, by conv => lhs; whnf⟩ : { s : Scope // defScope t0 = s }).1
def N0 : List Str := ["value"]
theorem sc0 : FnScope N0 ["value"] s0 := ⟨rfl, rfl, rfl, by decide +kernel, rfl, by decide +kernel, by decide +kernel⟩
def v0 : VSt := (.cons (.ret (.and (.isi 1 (.var 0)) (.not (.isi 2 (.var 0))))) .nil)
def d0 : He.DefD := ⟨("is_integer", none), "is_integer", "is_integer", a0, b0, s0, [], []⟩
def t1 : Stmt := (⟨_, by conv => lhs; whnf⟩ : { s : Stmt // top 4 = s }).1
def a1 : Arguments := (⟨_, by conv => lhs; whnf⟩ : { s : Arguments // defArgs t1 = s }).1
def b1 : List Stmt := (⟨_, by conv => lhs; whnf⟩ : { s : List Stmt // defBody t1 = s }).1
def s1 : Scope := (⟨_, by conv => lhs; whnf⟩ : { s : Scope // defScope t1 = s }).1
def N1 : List Str := ["value"]
theorem sc1 : FnScope N1 ["value"] s1 := ⟨rfl, rfl, rfl, by decide +kernel, rfl, by decide +kernel, by decide +kernel⟩
def v1 : VSt := (.cons (.ret (.isi 24 (.var 0))) .nil)
def d1 : He.DefD := ⟨("is_listed", none), "is_listed", "is_listed", a1, b1, s1, [], []⟩
def t2 : Stmt := (⟨_, by conv => lhs; whnf⟩ : { s : Stmt // top 5 = s }).1
def a2 : Arguments := (⟨_, by conv => lhs; whnf⟩ : { s : Arguments // defArgs t2 = s }).1
def b2 : List Stmt := (⟨_, by conv => lhs; whnf⟩ : { s : List Stmt // defBody t2 = s }).1
def s2 : Scope := (⟨_, by conv => lhs; whnf⟩ : { s : Scope // defScope t2 = s }).1
def N2 : List Str := ["value", "many"]
theorem sc2 : FnScope N2 ["value", "many"] s2 := ⟨rfl, rfl, rfl, by decide +kernel, rfl, by decide +kernel, by decide +kernel⟩
def v2 : VSt := (.cons (.ret (.and (.call 1 (.cons (.var 0) .nil)) (.cmp 0 (.bc 0 (.cons (.var 0) .nil)) (.var 1)))) .nil)
def d2 : He.DefD := ⟨("is_row", none), "is_row", "is_row", a2, b2, s2, [], []⟩
def t3 : Stmt := (⟨_, by conv => lhs; whnf⟩ : { s : Stmt // top 6 = s }).1
def a3 : Arguments := (⟨_, by conv => lhs; whnf⟩ : { s : Arguments // defArgs t3 = s }).1
def b3 : List Stmt := (⟨_, by conv => lhs; whnf⟩ : { s : List Stmt // defBody t3 = s }).1
def s3 : Scope := (⟨_, by conv => lhs; whnf⟩ : { s : Scope // defScope t3 = s }).1
def N3 : List Str := ["value", "sign"]
theorem sc3 : FnScope N3 ["value"] s3 := ⟨rfl, rfl, rfl, by decide +kernel, rfl, by decide +kernel, by decide +kernel⟩
def v3 : VSt := (.cons (.iff (.or (.not (.isi 4 (.var 0))) (.not (.chain 3 3 (.cst (.int (1))) (.bc 0 (.cons (.var 0) .nil)) (.cst (.int 8))))) (.cons (.ret (.cst (.bl false))) .nil) .nil) (.cons (.ret (.bc 1 (.cons (.comp (.wip 1 (.cfor (.var 1) (.var 0) (.cif (.cst (.bl true)) (.cend (.cmp 6 (.var 1) (.cst (.str 10764007916138016340623357018381878484926717388140237205260222238679159552778379350162562789826662349700200066221652708414050842492300689345988503579451497382011)))))))) .nil))) .nil))
def d3 : He.DefD := ⟨("is_name", none), "is_name", "is_name", a3, b3, s3, [], []⟩
def t4 : Stmt := (⟨_, by conv => lhs; whnf⟩ : { s : Stmt // top 7 = s }).1
def a4 : Arguments := (⟨_, by conv => lhs; whnf⟩ : { s : Arguments // defArgs t4 = s }).1
def b4 : List Stmt := (⟨_, by conv => lhs; whnf⟩ : { s : List Stmt // defBody t4 = s }).1
def s4 : Scope := (⟨_, by conv => lhs; whnf⟩ : { s : Scope // defScope t4 = s }).1
def N4 : List Str := ["value", "least", "most"]
theorem sc4 : FnScope N4 ["value", "least", "most"] s4 := ⟨rfl, rfl, rfl, by decide +kernel, rfl, by decide +kernel, by decide +kernel⟩
def v4 : VSt := (.cons (.ret (.and (.call 1 (.cons (.var 0) .nil)) (.chain 3 3 (.var 1) (.bc 0 (.cons (.var 0) .nil)) (.var 2)))) .nil)
def d4 : He.DefD := ⟨("are_so_many", none), "are_so_many", "are_so_many", a4, b4, s4, [], []⟩
def t5 : Stmt := (⟨_, by conv => lhs; whnf⟩ : { s : Stmt // top 15 = s }).1
def a5 : Arguments := (⟨_, by conv => lhs; whnf⟩ : { s : Arguments // defArgs t5 = s }).1
def b5 : List Stmt := (⟨_, by conv => lhs; whnf⟩ : { s : List Stmt // defBody t5 = s }).1
def s5 : Scope := (⟨_, by conv => lhs; whnf⟩ : { s : Scope // defScope t5 = s }).1
def N5 : List Str := ["value", "part"]
theorem sc5 : FnScope N5 ["value"] s5 := ⟨rfl, rfl, rfl, by decide +kernel, rfl, by decide +kernel, by decide +kernel⟩
def v5 : VSt := (.cons (.iff (.isi 24 (.var 0)) (.cons (.ret (.bc 5 (.cons (.comp (.wip 1 (.cfor (.var 1) (.var 0) (.cif (.cst (.bl true)) (.cend (.call 5 (.cons (.var 1) .nil))))))) .nil))) .nil) .nil) (.cons (.ret (.var 0)) .nil))
def d5 : He.DefD := ⟨("fixed", none), "fixed", "fixed", a5, b5, s5, [], []⟩
def t6 : Stmt := (⟨_, by conv => lhs; whnf⟩ : { s : Stmt // top 19 = s }).1
def a6 : Arguments := (⟨_, by conv => lhs; whnf⟩ : { s : Arguments // defArgs t6 = s }).1
def b6 : List Stmt := (⟨_, by conv => lhs; whnf⟩ : { s : List Stmt // defBody t6 = s }).1
def s6 : Scope := (⟨_, by conv => lhs; whnf⟩ : { s : Scope // defScope t6 = s }).1
def N6 : List Str := ["value"]
theorem sc6 : FnScope N6 ["value"] s6 := ⟨rfl, rfl, rfl, by decide +kernel, rfl, by decide +kernel, by decide +kernel⟩
def v6 : VSt := (.cons (.ret (.and (.call 2 (.cons (.var 0) (.cons (.cst (.int (2))) .nil))) (.and (.isi 4 (.idx (.var 0) (.cst (.int (0))))) (.and (.cmp 0 (.idx (.var 0) (.cst (.int (0)))) (.cst (.str 1014571355062824599660))) (.call 3 (.cons (.idx (.var 0) (.cst (.int (1)))) .nil)))))) .nil)
def d6 : He.DefD := ⟨("is_mark", none), "is_mark", "is_mark", a6, b6, s6, [], []⟩
def t7 : Stmt := (⟨_, by conv => lhs; whnf⟩ : { s : Stmt // top 20 = s }).1
def a7 : Arguments := (⟨_, by conv => lhs; whnf⟩ : { s : Arguments // defArgs t7 = s }).1
def b7 : List Stmt := (⟨_, by conv => lhs; whnf⟩ : { s : List Stmt // defBody t7 = s }).1
def s7 : Scope := (⟨_, by conv => lhs; whnf⟩ : { s : Scope // defScope t7 = s }).1
def N7 : List Str := ["value"]
theorem sc7 : FnScope N7 ["value"] s7 := ⟨rfl, rfl, rfl, by decide +kernel, rfl, by decide +kernel, by decide +kernel⟩
def v7 : VSt := (.cons (.iff (.or (.not (.call 2 (.cons (.var 0) (.cons (.cst (.int (3))) .nil)))) (.or (.not (.isi 4 (.idx (.var 0) (.cst (.int (0)))))) (.cmp 1 (.idx (.var 0) (.cst (.int (0)))) (.cst (.str 245366896))))) (.cons (.ret (.cst (.bl false))) .nil) .nil) (.cons (.ret (.and (.call 3 (.cons (.idx (.var 0) (.cst (.int (1)))) .nil)) (.call 3 (.cons (.idx (.var 0) (.cst (.int (2)))) .nil)))) .nil))
def d7 : He.DefD := ⟨("is_right", none), "is_right", "is_right", a7, b7, s7, [], []⟩
def t8 : Stmt := (⟨_, by conv => lhs; whnf⟩ : { s : Stmt // top 21 = s }).1
def a8 : Arguments := (⟨_, by conv => lhs; whnf⟩ : { s : Arguments // defArgs t8 = s }).1
def b8 : List Stmt := (⟨_, by conv => lhs; whnf⟩ : { s : List Stmt // defBody t8 = s }).1
def s8 : Scope := (⟨_, by conv => lhs; whnf⟩ : { s : Scope // defScope t8 = s }).1
def N8 : List Str := ["value"]
theorem sc8 : FnScope N8 ["value"] s8 := ⟨rfl, rfl, rfl, by decide +kernel, rfl, by decide +kernel, by decide +kernel⟩
def v8 : VSt := (.cons (.ret (.or (.cmp 8 (.var 0) (.cst .non)) (.or (.call 6 (.cons (.var 0) .nil)) (.call 7 (.cons (.var 0) .nil))))) .nil)
def d8 : He.DefD := ⟨("is_value", none), "is_value", "is_value", a8, b8, s8, [], []⟩
def t9 : Stmt := (⟨_, by conv => lhs; whnf⟩ : { s : Stmt // top 22 = s }).1
def a9 : Arguments := (⟨_, by conv => lhs; whnf⟩ : { s : Arguments // defArgs t9 = s }).1
def b9 : List Stmt := (⟨_, by conv => lhs; whnf⟩ : { s : List Stmt // defBody t9 = s }).1
def s9 : Scope := (⟨_, by conv => lhs; whnf⟩ : { s : Scope // defScope t9 = s }).1
def N9 : List Str := ["value"]
theorem sc9 : FnScope N9 ["value"] s9 := ⟨rfl, rfl, rfl, by decide +kernel, rfl, by decide +kernel, by decide +kernel⟩
def v9 : VSt := (.cons (.ret (.ife (.cmp 8 (.var 0) (.cst .non)) (.tup .nil) (.var 0))) .nil)
def d9 : He.DefD := ⟨("order_of", none), "order_of", "order_of", a9, b9, s9, [], []⟩
def t10 : Stmt := (⟨_, by conv => lhs; whnf⟩ : { s : Stmt // top 23 = s }).1
def a10 : Arguments := (⟨_, by conv => lhs; whnf⟩ : { s : Arguments // defArgs t10 = s }).1
def b10 : List Stmt := (⟨_, by conv => lhs; whnf⟩ : { s : List Stmt // defBody t10 = s }).1
def s10 : Scope := (⟨_, by conv => lhs; whnf⟩ : { s : Scope // defScope t10 = s }).1
def N10 : List Str := ["values", "value"]
theorem sc10 : FnScope N10 ["values"] s10 := ⟨rfl, rfl, rfl, by decide +kernel, rfl, by decide +kernel, by decide +kernel⟩
def v10 : VSt := (.cons (.ret (.bc 5 (.cons (.bc 4 (.cons (.dcomp (.wip 1 (.cfor (.var 1) (.var 0) (.cif (.cst (.bl true)) (.cend2 (.var 1) (.cst (.bl true))))))) (.cons (.cst (.gf 9)) .nil))) .nil))) .nil)
def d10 : He.DefD := ⟨("in_order", none), "in_order", "in_order", a10, b10, s10, [], []⟩
def t11 : Stmt := (⟨_, by conv => lhs; whnf⟩ : { s : Stmt // top 24 = s }).1
def a11 : Arguments := (⟨_, by conv => lhs; whnf⟩ : { s : Arguments // defArgs t11 = s }).1
def b11 : List Stmt := (⟨_, by conv => lhs; whnf⟩ : { s : List Stmt // defBody t11 = s }).1
def s11 : Scope := (⟨_, by conv => lhs; whnf⟩ : { s : Scope // defScope t11 = s }).1
def N11 : List Str := ["message"]
theorem sc11 : FnScope N11 ["message"] s11 := ⟨rfl, rfl, rfl, by decide +kernel, rfl, by decide +kernel, by decide +kernel⟩
def v11 : VSt := (.cons (.ret (.tup (.cons (.idx (.var 0) (.cst (.int (0)))) (.cons (.call 9 (.cons (.idx (.var 0) (.cst (.int (1)))) .nil)) .nil)))) .nil)
def d11 : He.DefD := ⟨("message_order", none), "message_order", "message_order", a11, b11, s11, [], []⟩
def t12 : Stmt := (⟨_, by conv => lhs; whnf⟩ : { s : Stmt // top 25 = s }).1
def a12 : Arguments := (⟨_, by conv => lhs; whnf⟩ : { s : Arguments // defArgs t12 = s }).1
def b12 : List Stmt := (⟨_, by conv => lhs; whnf⟩ : { s : List Stmt // defBody t12 = s }).1
def s12 : Scope := (⟨_, by conv => lhs; whnf⟩ : { s : Scope // defScope t12 = s }).1
def N12 : List Str := ["values", "key", "one", "other"]
theorem sc12 : FnScope N12 ["values", "key"] s12 := ⟨rfl, rfl, rfl, by decide +kernel, rfl, by decide +kernel, by decide +kernel⟩
def v12 : VSt := (.cons (.ret (.bc 1 (.cons (.comp (.wip 3 (.wip 2 (.cfor (.tup (.cons (.var 2) (.cons (.var 3) .nil))) (.zip (.var 0) (.slc (.var 0) (.cst (.int (1))) .nop)) (.cif (.cst (.bl true)) (.cend (.cmp 2 (.callv (.var 1) (.cons (.var 2) .nil)) (.callv (.var 1) (.cons (.var 3) .nil))))))))) .nil))) .nil)
def d12 : He.DefD := ⟨("are_ascending", none), "are_ascending", "are_ascending", a12, b12, s12, [], []⟩
def t13 : Stmt := (⟨_, by conv => lhs; whnf⟩ : { s : Stmt // top 44 = s }).1
def a13 : Arguments := (⟨_, by conv => lhs; whnf⟩ : { s : Arguments // defArgs t13 = s }).1
def b13 : List Stmt := (⟨_, by conv => lhs; whnf⟩ : { s : List Stmt // defBody t13 = s }).1
def s13 : Scope := (⟨_, by conv => lhs; whnf⟩ : { s : Scope // defScope t13 = s }).1
def N13 : List Str := ["value", "word"]
theorem sc13 : FnScope N13 ["value", "word"] s13 := ⟨rfl, rfl, rfl, by decide +kernel, rfl, by decide +kernel, by decide +kernel⟩
def v13 : VSt := (.cons (.ret (.and (.isi 4 (.var 0)) (.cmp 0 (.var 0) (.var 1)))) .nil)
def d13 : He.DefD := ⟨("is_word", none), "is_word", "is_word", a13, b13, s13, [], []⟩
def t14 : Stmt := (⟨_, by conv => lhs; whnf⟩ : { s : Stmt // top 45 = s }).1
def a14 : Arguments := (⟨_, by conv => lhs; whnf⟩ : { s : Arguments // defArgs t14 = s }).1
def b14 : List Stmt := (⟨_, by conv => lhs; whnf⟩ : { s : List Stmt // defBody t14 = s }).1
def s14 : Scope := (⟨_, by conv => lhs; whnf⟩ : { s : Scope // defScope t14 = s }).1
def N14 : List Str := ["value"]
theorem sc14 : FnScope N14 ["value"] s14 := ⟨rfl, rfl, rfl, by decide +kernel, rfl, by decide +kernel, by decide +kernel⟩
def v14 : VSt := (.cons (.iff (.call 2 (.cons (.var 0) (.cons (.cst (.int (1))) .nil))) (.cons (.ret (.call 13 (.cons (.idx (.var 0) (.cst (.int (0)))) (.cons (.cst (.str 431008799260776)) .nil)))) .nil) .nil) (.cons (.iff (.and (.call 2 (.cons (.var 0) (.cons (.cst (.int (2))) .nil))) (.call 13 (.cons (.idx (.var 0) (.cst (.int (0)))) (.cons (.cst (.str 1069911635662458585205)) .nil)))) (.cons (.ret (.call 3 (.cons (.idx (.var 0) (.cst (.int (1)))) .nil))) .nil) .nil) (.cons (.ret (.call 8 (.cons (.var 0) .nil))) .nil)))
def d14 : He.DefD := ⟨("is_term", none), "is_term", "is_term", a14, b14, s14, [], []⟩
def t15 : Stmt := (⟨_, by conv => lhs; whnf⟩ : { s : Stmt // top 46 = s }).1
def a15 : Arguments := (⟨_, by conv => lhs; whnf⟩ : { s : Arguments // defArgs t15 = s }).1
def b15 : List Stmt := (⟨_, by conv => lhs; whnf⟩ : { s : List Stmt // defBody t15 = s }).1
def s15 : Scope := (⟨_, by conv => lhs; whnf⟩ : { s : Scope // defScope t15 = s }).1
def N15 : List Str := ["value"]
theorem sc15 : FnScope N15 ["value"] s15 := ⟨rfl, rfl, rfl, by decide +kernel, rfl, by decide +kernel, by decide +kernel⟩
def v15 : VSt := (.cons (.iff (.or (.not (.call 1 (.cons (.var 0) .nil))) (.cmp 2 (.bc 0 (.cons (.var 0) .nil)) (.cst (.int (2))))) (.cons (.ret (.cst (.bl false))) .nil) .nil) (.cons (.iff (.call 13 (.cons (.idx (.var 0) (.cst (.int (0)))) (.cons (.cst (.str 1069911587283942768742)) .nil))) (.cons (.ret (.and (.cmp 0 (.bc 0 (.cons (.var 0) .nil)) (.cst (.int (2)))) (.call 3 (.cons (.idx (.var 0) (.cst (.int (1)))) .nil)))) .nil) .nil) (.cons (.iff (.call 13 (.cons (.idx (.var 0) (.cst (.int (0)))) (.cons (.cst (.str 222298228)) .nil))) (.cons (.ret (.and (.cmp 0 (.bc 0 (.cons (.var 0) .nil)) (.cst (.int (2)))) (.call 8 (.cons (.idx (.var 0) (.cst (.int (1)))) .nil)))) .nil) .nil) (.cons (.ret (.and (.call 13 (.cons (.idx (.var 0) (.cst (.int (0)))) (.cons (.cst (.str 461795089186932)) .nil))) (.and (.cmp 0 (.bc 0 (.cons (.var 0) .nil)) (.cst (.int (3)))) (.and (.call 3 (.cons (.idx (.var 0) (.cst (.int (1)))) .nil)) (.call 8 (.cons (.idx (.var 0) (.cst (.int (2)))) .nil)))))) .nil))))
def d15 : He.DefD := ⟨("is_when", none), "is_when", "is_when", a15, b15, s15, [], []⟩
def t16 : Stmt := (⟨_, by conv => lhs; whnf⟩ : { s : Stmt // top 47 = s }).1
def a16 : Arguments := (⟨_, by conv => lhs; whnf⟩ : { s : Arguments // defArgs t16 = s }).1
def b16 : List Stmt := (⟨_, by conv => lhs; whnf⟩ : { s : List Stmt // defBody t16 = s }).1
def s16 : Scope := (⟨_, by conv => lhs; whnf⟩ : { s : Scope // defScope t16 = s }).1
def N16 : List Str := ["value"]
theorem sc16 : FnScope N16 ["value"] s16 := ⟨rfl, rfl, rfl, by decide +kernel, rfl, by decide +kernel, by decide +kernel⟩
def v16 : VSt := (.cons (.iff (.not (.call 2 (.cons (.var 0) (.cons (.cst (.int (3))) .nil)))) (.cons (.ret (.cst (.bl false))) .nil) .nil) (.cons (.iff (.call 13 (.cons (.idx (.var 0) (.cst (.int (0)))) (.cons (.cst (.str 996124628581273829489)) .nil))) (.cons (.ret (.and (.call 3 (.cons (.idx (.var 0) (.cst (.int (1)))) .nil)) (.call 14 (.cons (.idx (.var 0) (.cst (.int (2)))) .nil)))) .nil) .nil) (.cons (.ret (.and (.call 13 (.cons (.idx (.var 0) (.cst (.int (0)))) (.cons (.cst (.str 1069911604876130910309)) .nil))) (.and (.call 14 (.cons (.idx (.var 0) (.cst (.int (1)))) .nil)) (.and (.cmp 9 (.idx (.var 0) (.cst (.int (1)))) (.cst .non)) (.call 14 (.cons (.idx (.var 0) (.cst (.int (2)))) .nil)))))) .nil)))
def d16 : He.DefD := ⟨("is_act", none), "is_act", "is_act", a16, b16, s16, [], []⟩
def t17 : Stmt := (⟨_, by conv => lhs; whnf⟩ : { s : Stmt // top 49 = s }).1
def a17 : Arguments := (⟨_, by conv => lhs; whnf⟩ : { s : Arguments // defArgs t17 = s }).1
def b17 : List Stmt := (⟨_, by conv => lhs; whnf⟩ : { s : List Stmt // defBody t17 = s }).1
def s17 : Scope := (⟨_, by conv => lhs; whnf⟩ : { s : Scope // defScope t17 = s }).1
def N17 : List Str := ["value", "least", "most", "one"]
theorem sc17 : FnScope N17 ["value", "least", "most"] s17 := ⟨rfl, rfl, rfl, by decide +kernel, rfl, by decide +kernel, by decide +kernel⟩
def v17 : VSt := (.cons (.iff (.or (.not (.call 4 (.cons (.var 0) (.cons (.var 1) (.cons (.var 2) .nil))))) (.not (.bc 1 (.cons (.comp (.wip 3 (.cfor (.var 3) (.var 0) (.cif (.cst (.bl true)) (.cend (.call 3 (.cons (.var 3) .nil))))))) .nil)))) (.cons (.ret (.cst (.bl false))) .nil) .nil) (.cons (.ret (.cmp 0 (.bc 0 (.cons (.dcomp (.wip 3 (.cfor (.var 3) (.var 0) (.cif (.cst (.bl true)) (.cend2 (.var 3) (.cst (.bl true))))))) .nil)) (.bc 0 (.cons (.var 0) .nil)))) .nil))
def d17 : He.DefD := ⟨("are_names", none), "are_names", "are_names", a17, b17, s17, [], []⟩
def t18 : Stmt := (⟨_, by conv => lhs; whnf⟩ : { s : Stmt // top 50 = s }).1
def a18 : Arguments := (⟨_, by conv => lhs; whnf⟩ : { s : Arguments // defArgs t18 = s }).1
def b18 : List Stmt := (⟨_, by conv => lhs; whnf⟩ : { s : List Stmt // defBody t18 = s }).1
def s18 : Scope := (⟨_, by conv => lhs; whnf⟩ : { s : Scope // defScope t18 = s }).1
def N18 : List Str := ["rule", "terms", "one", "term", "found"]
theorem sc18 : FnScope N18 ["rule"] s18 := ⟨rfl, rfl, rfl, by decide +kernel, rfl, by decide +kernel, by decide +kernel⟩
def v18 : VSt := (.cons (.asg (.var 1) (.comp (.wip 3 (.wip 2 (.cfor (.var 2) (.fld (.var 0) 903890899416664506484) (.cif (.cst (.bl true)) (.wip 3 (.cfor (.var 3) (.slc (.var 2) (.cst (.int (1))) .nop) (.cif (.isi 16 (.var 3)) (.cend (.var 3))))))))))) (.cons (.asg (.var 4) (.compH (.wip 3 (.cfor (.var 3) (.var 1) (.cif (.and (.cmp 0 (.bc 0 (.cons (.var 3) .nil)) (.cst (.int (2)))) (.cmp 0 (.idx (.var 3) (.cst (.int (0)))) (.cst (.str 1069911635662458585205)))) (.cend (.idx (.var 3) (.cst (.int (1)))))))))) (.cons (.ex (.bm 1 (.var 4) (.cons (.comp (.wip 2 (.cfor (.var 2) (.fld (.var 0) 903890899416664506484) (.cif (.cmp 0 (.idx (.var 2) (.cst (.int (0)))) (.cst (.str 996124628581273829489))) (.cend (.idx (.var 2) (.cst (.int (1))))))))) .nil))) (.cons (.ret (.vls (.lim (.star (.var 4) (.star (.comp (.wip 2 (.cfor (.var 2) (.fld (.var 0) 2321138542114600486164234356) (.cif (.cmp 6 (.idx (.var 2) (.cst (.int (0)))) (.tup (.cons (.cst (.str 1069911587283942768742)) (.cons (.cst (.str 461795089186932)) .nil)))) (.cend (.idx (.var 2) (.cst (.int (1))))))))) .nil))))) .nil))))
def d18 : He.DefD := ⟨("slots_in", none), "slots_in", "slots_in", a18, b18, s18, [], []⟩
def t19 : Stmt := (⟨_, by conv => lhs; whnf⟩ : { s : Stmt // top 53 = s }).1
def a19 : Arguments := (⟨_, by conv => lhs; whnf⟩ : { s : Arguments // defArgs t19 = s }).1
def b19 : List Stmt := (⟨_, by conv => lhs; whnf⟩ : { s : List Stmt // defBody t19 = s }).1
def s19 : Scope := (⟨_, by conv => lhs; whnf⟩ : { s : Scope // defScope t19 = s }).1
def N19 : List Str := ["rule", "found", "one", "term"]
theorem sc19 : FnScope N19 ["rule"] s19 := ⟨rfl, rfl, rfl, by decide +kernel, rfl, by decide +kernel, by decide +kernel⟩
def v19 : VSt := (.cons (.asg (.var 1) (.comp (.wip 3 (.wip 2 (.cfor (.var 2) (.fld (.var 0) 903890899416664506484) (.cif (.cst (.bl true)) (.wip 3 (.cfor (.var 3) (.slc (.var 2) (.cst (.int (1))) .nop) (.cif (.and (.isi 16 (.var 3)) (.call 8 (.cons (.var 3) .nil))) (.cend (.var 3))))))))))) (.cons (.ret (.vls (.lim (.star (.var 1) (.star (.comp (.wip 2 (.cfor (.var 2) (.fld (.var 0) 2321138542114600486164234356) (.cif (.and (.cmp 6 (.idx (.var 2) (.cst (.int (0)))) (.tup (.cons (.cst (.str 222298228)) (.cons (.cst (.str 461795089186932)) .nil)))) (.cmp 9 (.idx (.var 2) (.cst (.int (-1)))) (.cst .non))) (.cend (.idx (.var 2) (.cst (.int (-1))))))))) .nil))))) .nil))
def d19 : He.DefD := ⟨("values_in", none), "values_in", "values_in", a19, b19, s19, [], []⟩
def t20 : Stmt := (⟨_, by conv => lhs; whnf⟩ : { s : Stmt // top 55 = s }).1
def a20 : Arguments := (⟨_, by conv => lhs; whnf⟩ : { s : Arguments // defArgs t20 = s }).1
def b20 : List Stmt := (⟨_, by conv => lhs; whnf⟩ : { s : List Stmt // defBody t20 = s }).1
def s20 : Scope := (⟨_, by conv => lhs; whnf⟩ : { s : Scope // defScope t20 = s }).1
def N20 : List Str := ["value"]
theorem sc20 : FnScope N20 ["value"] s20 := ⟨rfl, rfl, rfl, by decide +kernel, rfl, by decide +kernel, by decide +kernel⟩
def v20 : VSt := (.cons (.iff (.not (.isi 512 (.var 0))) (.cons .raise .nil) .nil) .nil)
def d20 : He.DefD := ⟨("need_world", none), "need_world", "need_world", a20, b20, s20, [], []⟩
def t21 : Stmt := (⟨_, by conv => lhs; whnf⟩ : { s : Stmt // top 56 = s }).1
def a21 : Arguments := (⟨_, by conv => lhs; whnf⟩ : { s : Arguments // defArgs t21 = s }).1
def b21 : List Stmt := (⟨_, by conv => lhs; whnf⟩ : { s : List Stmt // defBody t21 = s }).1
def s21 : Scope := (⟨_, by conv => lhs; whnf⟩ : { s : Scope // defScope t21 = s }).1
def N21 : List Str := ["world", "value"]
theorem sc21 : FnScope N21 ["world", "value"] s21 := ⟨rfl, rfl, rfl, by decide +kernel, rfl, by decide +kernel, by decide +kernel⟩
def v21 : VSt := (.cons (.ret (.and (.call 8 (.cons (.var 1) .nil)) (.or (.cmp 8 (.var 1) (.cst .non)) (.meth 39285181495248774281858523428554036346873228694650982 (.var 0) (.cons (.var 1) .nil))))) .nil)
def d21 : He.DefD := ⟨("is_value_of", none), "is_value_of", "is_value_of", a21, b21, s21, [], []⟩
def t22 : Stmt := (⟨_, by conv => lhs; whnf⟩ : { s : Stmt // top 57 = s }).1
def a22 : Arguments := (⟨_, by conv => lhs; whnf⟩ : { s : Arguments // defArgs t22 = s }).1
def b22 : List Stmt := (⟨_, by conv => lhs; whnf⟩ : { s : List Stmt // defBody t22 = s }).1
def s22 : Scope := (⟨_, by conv => lhs; whnf⟩ : { s : Scope // defScope t22 = s }).1
def N22 : List Str := ["world", "value"]
theorem sc22 : FnScope N22 ["world", "value"] s22 := ⟨rfl, rfl, rfl, by decide +kernel, rfl, by decide +kernel, by decide +kernel⟩
def v22 : VSt := (.cons (.ret (.and (.call 7 (.cons (.var 1) .nil)) (.meth 39285181495248774281858523428554036346873228694650982 (.var 0) (.cons (.var 1) .nil)))) .nil)
def d22 : He.DefD := ⟨("is_right_of", none), "is_right_of", "is_right_of", a22, b22, s22, [], []⟩
def t23 : Stmt := (⟨_, by conv => lhs; whnf⟩ : { s : Stmt // top 58 = s }).1
def a23 : Arguments := (⟨_, by conv => lhs; whnf⟩ : { s : Arguments // defArgs t23 = s }).1
def b23 : List Stmt := (⟨_, by conv => lhs; whnf⟩ : { s : List Stmt // defBody t23 = s }).1
def s23 : Scope := (⟨_, by conv => lhs; whnf⟩ : { s : Scope // defScope t23 = s }).1
def N23 : List Str := ["world", "value"]
theorem sc23 : FnScope N23 ["world", "value"] s23 := ⟨rfl, rfl, rfl, by decide +kernel, rfl, by decide +kernel, by decide +kernel⟩
def v23 : VSt := (.cons (.ret (.and (.call 2 (.cons (.var 1) (.cons (.cst (.int (2))) .nil))) (.and (.call 22 (.cons (.var 0) (.cons (.idx (.var 1) (.cst (.int (0)))) .nil))) (.call 21 (.cons (.var 0) (.cons (.idx (.var 1) (.cst (.int (1)))) .nil)))))) .nil)
def d23 : He.DefD := ⟨("is_message_of", none), "is_message_of", "is_message_of", a23, b23, s23, [], []⟩
def t24 : Stmt := (⟨_, by conv => lhs; whnf⟩ : { s : Stmt // top 59 = s }).1
def a24 : Arguments := (⟨_, by conv => lhs; whnf⟩ : { s : Arguments // defArgs t24 = s }).1
def b24 : List Stmt := (⟨_, by conv => lhs; whnf⟩ : { s : List Stmt // defBody t24 = s }).1
def s24 : Scope := (⟨_, by conv => lhs; whnf⟩ : { s : Scope // defScope t24 = s }).1
def N24 : List Str := ["value"]
theorem sc24 : FnScope N24 ["value"] s24 := ⟨rfl, rfl, rfl, by decide +kernel, rfl, by decide +kernel, by decide +kernel⟩
def v24 : VSt := (.cons (.ret (.and (.call 0 (.cons (.var 0) .nil)) (.cmp 5 (.var 0) (.cst (.int (1)))))) .nil)
def d24 : He.DefD := ⟨("is_count", none), "is_count", "is_count", a24, b24, s24, [], []⟩
def t25 : Stmt := (⟨_, by conv => lhs; whnf⟩ : { s : Stmt // top 65 = s }).1
def a25 : Arguments := (⟨_, by conv => lhs; whnf⟩ : { s : Arguments // defArgs t25 = s }).1
def b25 : List Stmt := (⟨_, by conv => lhs; whnf⟩ : { s : List Stmt // defBody t25 = s }).1
def s25 : Scope := (⟨_, by conv => lhs; whnf⟩ : { s : Scope // defScope t25 = s }).1
def N25 : List Str := ["world", "parts", "part", "person"]
theorem sc25 : FnScope N25 ["world"] s25 := ⟨rfl, rfl, rfl, by decide +kernel, rfl, by decide +kernel, by decide +kernel⟩
def v25 : VSt := (.cons (.asg (.var 1) (.bc 5 (.cons (.comp (.wip 2 (.cfor (.var 2) (.fld (.var 0) 2185738785754214935230939252) (.cif (.cst (.bl true)) (.cend (.tup (.cons (.idx (.fld (.var 2) 4705521291157225747915760772055156) (.cst (.int (0)))) (.cons (.fld (.var 2) 1914939439053977768981168239) .nil)))))))) .nil))) (.cons (.ret (.tup (.cons (.var 1) (.cons (.bc 5 (.cons (.comp (.wip 3 (.cfor (.var 3) (.fld (.var 0) 4583826543393248145051999130353766) (.cif (.cst (.bl true)) (.cend (.fld (.var 3) 2030996409970724528522788980)))))) .nil)) .nil)))) .nil))
def d25 : He.DefD := ⟨("first_standing", none), "first_standing", "first_standing", a25, b25, s25, [], []⟩
def t26 : Stmt := (⟨_, by conv => lhs; whnf⟩ : { s : Stmt // top 66 = s }).1
def a26 : Arguments := (⟨_, by conv => lhs; whnf⟩ : { s : Arguments // defArgs t26 = s }).1
def b26 : List Stmt := (⟨_, by conv => lhs; whnf⟩ : { s : List Stmt // defBody t26 = s }).1
def s26 : Scope := (⟨_, by conv => lhs; whnf⟩ : { s : Scope // defScope t26 = s }).1
def N26 : List Str := ["term", "value", "part", "slots"]
theorem sc26 : FnScope N26 ["term", "value", "part", "slots"] s26 := ⟨rfl, rfl, rfl, by decide +kernel, rfl, by decide +kernel, by decide +kernel⟩
def v26 : VSt := (.cons (.iff (.and (.isi 16 (.var 0)) (.cmp 0 (.idx (.var 0) (.cst (.int (0)))) (.cst (.str 431008799260776)))) (.cons (.ret (.var 1)) .nil) .nil) (.cons (.iff (.and (.isi 16 (.var 0)) (.cmp 0 (.idx (.var 0) (.cst (.int (0)))) (.cst (.str 1069911635662458585205)))) (.cons (.ret (.idx (.var 3) (.bm 4 (.fld (.var 2) 2243767326552796346879836276) (.cons (.idx (.var 0) (.cst (.int (1)))) .nil)))) .nil) .nil) (.cons (.ret (.var 0)) .nil)))
def d26 : He.DefD := ⟨("told", none), "told", "told", a26, b26, s26, [], []⟩
def t27 : Stmt := (⟨_, by conv => lhs; whnf⟩ : { s : Stmt // top 67 = s }).1
def a27 : Arguments := (⟨_, by conv => lhs; whnf⟩ : { s : Arguments // defArgs t27 = s }).1
def b27 : List Stmt := (⟨_, by conv => lhs; whnf⟩ : { s : List Stmt // defBody t27 = s }).1
def s27 : Scope := (⟨_, by conv => lhs; whnf⟩ : { s : Scope // defScope t27 = s }).1
def N27 : List Str := ["when", "value", "part", "slots", "here"]
theorem sc27 : FnScope N27 ["when", "value", "part", "slots"] s27 := ⟨rfl, rfl, rfl, by decide +kernel, rfl, by decide +kernel, by decide +kernel⟩
def v27 : VSt := (.cons (.iff (.cmp 0 (.idx (.var 0) (.cst (.int (0)))) (.cst (.str 222298228))) (.cons (.ret (.cmp 0 (.var 1) (.idx (.var 0) (.cst (.int (1)))))) .nil) .nil) (.cons (.asg (.var 4) (.idx (.var 3) (.bm 4 (.fld (.var 2) 2243767326552796346879836276) (.cons (.idx (.var 0) (.cst (.int (1)))) .nil)))) (.cons (.ret (.ife (.cmp 0 (.idx (.var 0) (.cst (.int (0)))) (.cst (.str 461795089186932))) (.cmp 0 (.var 4) (.idx (.var 0) (.cst (.int (2))))) (.cmp 0 (.var 4) (.var 1)))) .nil)))
def d27 : He.DefD := ⟨("is_so", none), "is_so", "is_so", a27, b27, s27, [], []⟩
def t28 : Stmt := (⟨_, by conv => lhs; whnf⟩ : { s : Stmt // top 68 = s }).1
def a28 : Arguments := (⟨_, by conv => lhs; whnf⟩ : { s : Arguments // defArgs t28 = s }).1
def b28 : List Stmt := (⟨_, by conv => lhs; whnf⟩ : { s : List Stmt // defBody t28 = s }).1
def s28 : Scope := (⟨_, by conv => lhs; whnf⟩ : { s : Scope // defScope t28 = s }).1
def N28 : List Str := ["part", "state", "slots", "word", "value", "rule", "when"]
theorem sc28 : FnScope N28 ["part", "state", "slots", "word", "value"] s28 := ⟨rfl, rfl, rfl, by decide +kernel, rfl, by decide +kernel, by decide +kernel⟩
def v28 : VSt := (.cons (.for_ (.var 5) (.fld (.var 0) 2224424596449297417606529140) (.cons (.iff (.and (.cmp 0 (.tup (.cons (.fld (.var 5) 2243767400339711069066887270) (.cons (.fld (.var 5) 1106805137004023513189) .nil))) (.tup (.cons (.var 1) (.cons (.var 3) .nil)))) (.bc 1 (.cons (.comp (.wip 6 (.cfor (.var 6) (.fld (.var 5) 2321138542114600486164234356) (.cif (.cst (.bl true)) (.cend (.call 27 (.cons (.var 6) (.cons (.var 4) (.cons (.var 0) (.cons (.var 2) .nil)))))))))) .nil))) (.cons (.ret (.var 5)) .nil) .nil) .nil)) (.cons (.ret (.cst .non)) .nil))
def d28 : He.DefD := ⟨("rule_for", none), "rule_for", "rule_for", a28, b28, s28, [], []⟩
def t29 : Stmt := (⟨_, by conv => lhs; whnf⟩ : { s : Stmt // top 69 = s }).1
def a29 : Arguments := (⟨_, by conv => lhs; whnf⟩ : { s : Arguments // defArgs t29 = s }).1
def b29 : List Stmt := (⟨_, by conv => lhs; whnf⟩ : { s : List Stmt // defBody t29 = s }).1
def s29 : Scope := (⟨_, by conv => lhs; whnf⟩ : { s : Scope // defScope t29 = s }).1
def N29 : List Str := ["world", "standing", "right", "value", "name", "word", "at", "holds", "part", "state", "slots", "rule", "sent", "kept", "kind", "first", "second", "target"]
theorem sc29 : FnScope N29 ["world", "standing", "right", "value"] s29 := ⟨rfl, rfl, rfl, by decide +kernel, rfl, by decide +kernel, by decide +kernel⟩
def v29 : VSt := (.cons (.asg (.tup (.cons (.var 4) (.cons (.var 5) .nil))) (.slc (.var 2) (.cst (.int (1))) .nop)) (.cons (.iff (.cmp 6 (.var 4) (.fld (.var 0) 2243767261989130516245250164)) (.cons (.asg (.var 6) (.idx (.fld (.var 0) 2243767261989130516245250164) (.var 4))) (.cons (.asg (.var 7) (.ife (.cmp 8 (.var 3) (.cst .non)) (.idx (.idx (.var 1) (.cst (.int (1)))) (.var 6)) (.call 10 (.cons (.vls (.lim (.star (.idx (.idx (.var 1) (.cst (.int (1)))) (.var 6)) (.cons (.var 3) .nil)))) .nil)))) (.cons (.ret (.tup (.cons (.tup (.cons (.idx (.var 1) (.cst (.int (0)))) (.cons (.tup (.lim (.star (.slc (.idx (.var 1) (.cst (.int (1)))) .nop (.var 6)) (.cons (.var 7) (.star (.slc (.idx (.var 1) (.cst (.int (1)))) (.bin 0 (.var 6) (.cst (.int (1)))) .nop) .nil))))) .nil))) (.cons (.vls .nil) .nil)))) .nil))) .nil) (.cons (.asg (.var 6) (.idx (.fld (.var 0) 2243767363446284494298939508) (.var 4))) (.cons (.asg (.tup (.cons (.var 8) (.cons (.tup (.cons (.var 9) (.cons (.var 10) .nil))) .nil))) (.tup (.cons (.idx (.fld (.var 0) 2185738785754214935230939252) (.var 6)) (.cons (.idx (.idx (.var 1) (.cst (.int (0)))) (.var 6)) .nil)))) (.cons (.asg (.var 11) (.call 28 (.cons (.var 8) (.cons (.var 9) (.cons (.var 10) (.cons (.var 5) (.cons (.var 3) .nil))))))) (.cons (.iff (.cmp 8 (.var 11) (.cst .non)) (.cons (.ret (.tup (.cons (.var 1) (.cons (.vls .nil) .nil)))) .nil) .nil) (.cons (.asg (.tup (.cons (.var 12) (.cons (.var 13) .nil))) (.tup (.cons (.lst .nil) (.cons (.bc 6 (.cons (.var 10) .nil)) .nil)))) (.cons (.for_ (.tup (.cons (.var 14) (.cons (.var 15) (.cons (.var 16) .nil)))) (.fld (.var 11) 903890899416664506484) (.cons (.iff (.cmp 0 (.var 14) (.cst (.str 996124628581273829489))) (.cons (.asgI (.var 13) (.bm 4 (.fld (.var 8) 2243767326552796346879836276) (.cons (.var 15) .nil)) (.call 26 (.cons (.var 16) (.cons (.var 3) (.cons (.var 8) (.cons (.var 10) .nil)))))) .nil) (.cons (.asg (.var 17) (.call 26 (.cons (.var 15) (.cons (.var 3) (.cons (.var 8) (.cons (.var 10) .nil)))))) (.cons (.iff (.and (.cmp 9 (.var 17) (.cst .non)) (.cmp 0 (.idx (.var 17) (.cst (.int (0)))) (.cst (.str 245366896)))) (.cons (.ex (.bm 0 (.var 12) (.cons (.tup (.cons (.var 17) (.cons (.call 26 (.cons (.var 16) (.cons (.var 3) (.cons (.var 8) (.cons (.var 10) .nil))))) .nil))) .nil))) .nil) .nil) .nil))) .nil)) (.cons (.ret (.tup (.cons (.tup (.cons (.tup (.lim (.star (.slc (.idx (.var 1) (.cst (.int (0)))) .nop (.var 6)) (.cons (.tup (.cons (.fld (.var 11) 2108367533298887464111308915) (.cons (.bc 5 (.cons (.var 13) .nil)) .nil))) (.star (.slc (.idx (.var 1) (.cst (.int (0)))) (.bin 0 (.var 6) (.cst (.int (1)))) .nop) .nil))))) (.cons (.idx (.var 1) (.cst (.int (1)))) .nil))) (.cons (.var 12) .nil)))) .nil)))))))))
def d29 : He.DefD := ⟨("heard", none), "heard", "heard", a29, b29, s29, [], []⟩
def t30 : Stmt := (⟨_, by conv => lhs; whnf⟩ : { s : Stmt // top 70 = s }).1
def a30 : Arguments := (⟨_, by conv => lhs; whnf⟩ : { s : Arguments // defArgs t30 = s }).1
def b30 : List Stmt := (⟨_, by conv => lhs; whnf⟩ : { s : List Stmt // defBody t30 = s }).1
def s30 : Scope := (⟨_, by conv => lhs; whnf⟩ : { s : Scope // defScope t30 = s }).1
def N30 : List Str := ["world", "standing", "name", "at", "part"]
theorem sc30 : FnScope N30 ["world", "standing", "name"] s30 := ⟨rfl, rfl, rfl, by decide +kernel, rfl, by decide +kernel, by decide +kernel⟩
def v30 : VSt := (.cons (.asg (.var 3) (.idx (.fld (.var 0) 2243767363446284494298939508) (.var 2))) (.cons (.asg (.var 4) (.idx (.fld (.var 0) 2185738785754214935230939252) (.var 3))) (.cons (.ret (.tup (.cons (.tup (.lim (.star (.slc (.idx (.var 1) (.cst (.int (0)))) .nop (.var 3)) (.cons (.tup (.cons (.idx (.fld (.var 4) 4705521291157225747915760772055156) (.cst (.int (0)))) (.cons (.fld (.var 4) 1914939439053977768981168239) .nil))) (.star (.slc (.idx (.var 1) (.cst (.int (0)))) (.bin 0 (.var 3) (.cst (.int (1)))) .nop) .nil))))) (.cons (.idx (.var 1) (.cst (.int (1)))) .nil)))) .nil)))
def d30 : He.DefD := ⟨("mended", none), "mended", "mended", a30, b30, s30, [], []⟩
def t31 : Stmt := (⟨_, by conv => lhs; whnf⟩ : { s : Stmt // top 71 = s }).1
def a31 : Arguments := (⟨_, by conv => lhs; whnf⟩ : { s : Arguments // defArgs t31 = s }).1
def b31 : List Stmt := (⟨_, by conv => lhs; whnf⟩ : { s : List Stmt // defBody t31 = s }).1
def s31 : Scope := (⟨_, by conv => lhs; whnf⟩ : { s : Scope // defScope t31 = s }).1
def N31 : List Str := ["air", "found", "message", "row"]
theorem sc31 : FnScope N31 ["air"] s31 := ⟨rfl, rfl, rfl, by decide +kernel, rfl, by decide +kernel, by decide +kernel⟩
def v31 : VSt := (.cons (.asg (.var 1) (.comp (.wip 2 (.cfor (.var 2) (.bc 4 (.cons (.var 0) (.cons (.cst (.gf 11)) .nil))) (.cif (.cst (.bl true)) (.cend (.tup (.cons (.idx (.var 2) (.cst (.int (0)))) (.cons (.idx (.var 2) (.cst (.int (1)))) (.cons (.idx (.var 0) (.var 2)) .nil)))))))))) (.cons (.ret (.bc 5 (.cons (.comp (.wip 3 (.cfor (.var 3) (.var 1) (.cif (.cmp 4 (.idx (.var 3) (.cst (.int (2)))) (.cst (.int (0)))) (.cend (.var 3)))))) .nil))) .nil))
def d31 : He.DefD := ⟨("air_rows", none), "air_rows", "air_rows", a31, b31, s31, [], []⟩
def t32 : Stmt := (⟨_, by conv => lhs; whnf⟩ : { s : Stmt // top 72 = s }).1
def a32 : Arguments := (⟨_, by conv => lhs; whnf⟩ : { s : Arguments // defArgs t32 = s }).1
def b32 : List Stmt := (⟨_, by conv => lhs; whnf⟩ : { s : List Stmt // defBody t32 = s }).1
def s32 : Scope := (⟨_, by conv => lhs; whnf⟩ : { s : Scope // defScope t32 = s }).1
def N32 : List Str := ["rows", "right", "value", "many"]
theorem sc32 : FnScope N32 ["rows"] s32 := ⟨rfl, rfl, rfl, by decide +kernel, rfl, by decide +kernel, by decide +kernel⟩
def v32 : VSt := (.cons (.ret (.dcomp (.wip 3 (.wip 2 (.wip 1 (.cfor (.tup (.cons (.var 1) (.cons (.var 2) (.cons (.var 3) .nil)))) (.var 0) (.cif (.cst (.bl true)) (.cend2 (.tup (.cons (.var 1) (.cons (.var 2) .nil))) (.var 3))))))))) .nil)
def d32 : He.DefD := ⟨("air_of", none), "air_of", "air_of", a32, b32, s32, [], []⟩
def t33 : Stmt := (⟨_, by conv => lhs; whnf⟩ : { s : Stmt // top 73 = s }).1
def a33 : Arguments := (⟨_, by conv => lhs; whnf⟩ : { s : Arguments // defArgs t33 = s }).1
def b33 : List Stmt := (⟨_, by conv => lhs; whnf⟩ : { s : List Stmt // defBody t33 = s }).1
def s33 : Scope := (⟨_, by conv => lhs; whnf⟩ : { s : Scope // defScope t33 = s }).1
def N33 : List Str := ["world"]
theorem sc33 : FnScope N33 ["world"] s33 := ⟨rfl, rfl, rfl, by decide +kernel, rfl, by decide +kernel, by decide +kernel⟩
def v33 : VSt := (.cons (.ex (.call 20 (.cons (.var 0) .nil))) (.cons (.ret (.tup (.cons (.call 25 (.cons (.var 0) .nil)) (.cons (.tup .nil) .nil)))) .nil))
def d33 : He.DefD := ⟨("first_spot", none), "first_spot", "first_spot", a33, b33, s33, [], []⟩
def t34 : Stmt := (⟨_, by conv => lhs; whnf⟩ : { s : Stmt // top 74 = s }).1
def a34 : Arguments := (⟨_, by conv => lhs; whnf⟩ : { s : Arguments // defArgs t34 = s }).1
def b34 : List Stmt := (⟨_, by conv => lhs; whnf⟩ : { s : List Stmt // defBody t34 = s }).1
def s34 : Scope := (⟨_, by conv => lhs; whnf⟩ : { s : Scope // defScope t34 = s }).1
def N34 : List Str := ["air", "messages", "found", "message"]
theorem sc34 : FnScope N34 ["air", "messages"] s34 := ⟨rfl, rfl, rfl, by decide +kernel, rfl, by decide +kernel, by decide +kernel⟩
def v34 : VSt := (.cons (.asg (.var 2) (.bc 8 (.cons (.var 0) .nil))) (.cons (.for_ (.var 3) (.var 1) (.cons (.asgI (.var 2) (.var 3) (.bin 0 (.bm 6 (.var 2) (.cons (.var 3) (.cons (.cst (.int (0))) .nil))) (.cst (.int (1))))) .nil)) (.cons (.ret (.var 2)) .nil)))
def d34 : He.DefD := ⟨("with_more", none), "with_more", "with_more", a34, b34, s34, [], []⟩
def t35 : Stmt := (⟨_, by conv => lhs; whnf⟩ : { s : Stmt // top 75 = s }).1
def a35 : Arguments := (⟨_, by conv => lhs; whnf⟩ : { s : Arguments // defArgs t35 = s }).1
def b35 : List Stmt := (⟨_, by conv => lhs; whnf⟩ : { s : List Stmt // defBody t35 = s }).1
def s35 : Scope := (⟨_, by conv => lhs; whnf⟩ : { s : Scope // defScope t35 = s }).1
def N35 : List Str := ["air", "message", "found"]
theorem sc35 : FnScope N35 ["air", "message"] s35 := ⟨rfl, rfl, rfl, by decide +kernel, rfl, by decide +kernel, by decide +kernel⟩
def v35 : VSt := (.cons (.asg (.var 2) (.bc 8 (.cons (.var 0) .nil))) (.cons (.asgI (.var 2) (.var 1) (.bin 1 (.idx (.var 2) (.var 1)) (.cst (.int (1))))) (.cons (.iff (.cmp 0 (.idx (.var 2) (.var 1)) (.cst (.int (0)))) (.cons (.del (.var 2) (.var 1)) .nil) .nil) (.cons (.ret (.var 2)) .nil))))
def d35 : He.DefD := ⟨("with_less", none), "with_less", "with_less", a35, b35, s35, [], []⟩
def t36 : Stmt := (⟨_, by conv => lhs; whnf⟩ : { s : Stmt // top 76 = s }).1
def a36 : Arguments := (⟨_, by conv => lhs; whnf⟩ : { s : Arguments // defArgs t36 = s }).1
def b36 : List Stmt := (⟨_, by conv => lhs; whnf⟩ : { s : List Stmt // defBody t36 = s }).1
def s36 : Scope := (⟨_, by conv => lhs; whnf⟩ : { s : Scope // defScope t36 = s }).1
def N36 : List Str := ["world", "value"]
theorem sc36 : FnScope N36 ["world", "value"] s36 := ⟨rfl, rfl, rfl, by decide +kernel, rfl, by decide +kernel, by decide +kernel⟩
def v36 : VSt := (.cons (.iff (.or (.not (.call 1 (.cons (.var 1) .nil))) (.or (.cmp 2 (.bc 0 (.cons (.var 1) .nil)) (.cst (.int (2)))) (.not (.isi 4 (.idx (.var 1) (.cst (.int (0)))))))) (.cons (.ret (.cst (.bl false))) .nil) .nil) (.cons (.iff (.cmp 0 (.idx (.var 1) (.cst (.int (0)))) (.cst (.str 1069911604876130910309))) (.cons (.ret (.and (.cmp 0 (.bc 0 (.cons (.var 1) .nil)) (.cst (.int (4)))) (.and (.call 3 (.cons (.idx (.var 1) (.cst (.int (1)))) .nil)) (.and (.cmp 6 (.idx (.var 1) (.cst (.int (1)))) (.fld (.var 0) 2243767261989130516245250164)) (.call 23 (.cons (.var 0) (.cons (.slc (.var 1) (.cst (.int (2))) .nop) .nil))))))) .nil) .nil) (.cons (.iff (.cmp 0 (.idx (.var 1) (.cst (.int (0)))) (.cst (.str 1014571372655002255461))) (.cons (.ret (.and (.cmp 0 (.bc 0 (.cons (.var 1) .nil)) (.cst (.int (2)))) (.and (.call 3 (.cons (.idx (.var 1) (.cst (.int (1)))) .nil)) (.cmp 6 (.idx (.var 1) (.cst (.int (1)))) (.fld (.var 0) 2243767363446284494298939508))))) .nil) .nil) (.cons (.ret (.and (.cmp 6 (.idx (.var 1) (.cst (.int (0)))) (.tup (.cons (.cst (.str 3975354506740296182261774190379110)) (.cons (.cst (.str 1005348044598623076454)) .nil)))) (.and (.cmp 0 (.bc 0 (.cons (.var 1) .nil)) (.cst (.int (3)))) (.call 23 (.cons (.var 0) (.cons (.slc (.var 1) (.cst (.int (1))) .nop) .nil)))))) .nil))))
def d36 : He.DefD := ⟨("is_deed", none), "is_deed", "is_deed", a36, b36, s36, [], []⟩
def t37 : Stmt := (⟨_, by conv => lhs; whnf⟩ : { s : Stmt // top 77 = s }).1
def a37 : Arguments := (⟨_, by conv => lhs; whnf⟩ : { s : Arguments // defArgs t37 = s }).1
def b37 : List Stmt := (⟨_, by conv => lhs; whnf⟩ : { s : List Stmt // defBody t37 = s }).1
def s37 : Scope := (⟨_, by conv => lhs; whnf⟩ : { s : Scope // defScope t37 = s }).1
def N37 : List Str := ["world", "spot", "deed", "holds"]
theorem sc37 : FnScope N37 ["world", "spot", "deed"] s37 := ⟨rfl, rfl, rfl, by decide +kernel, rfl, by decide +kernel, by decide +kernel⟩
def v37 : VSt := (.cons (.iff (.cmp 0 (.idx (.var 2) (.cst (.int (0)))) (.cst (.str 1069911604876130910309))) (.cons (.asg (.var 3) (.idx (.idx (.idx (.var 1) (.cst (.int (0)))) (.cst (.int (1)))) (.idx (.fld (.var 0) 2243767261989130516245250164) (.idx (.var 2) (.cst (.int (1))))))) (.cons (.ret (.and (.cmp 6 (.idx (.var 2) (.cst (.int (2)))) (.var 3)) (.or (.cmp 8 (.idx (.var 2) (.cst (.int (3)))) (.cst .non)) (.cmp 6 (.idx (.var 2) (.cst (.int (3)))) (.var 3))))) .nil)) .nil) (.cons (.ret (.or (.cmp 0 (.idx (.var 2) (.cst (.int (0)))) (.cst (.str 1014571372655002255461))) (.cmp 6 (.tup (.cons (.idx (.var 2) (.cst (.int (1)))) (.cons (.idx (.var 2) (.cst (.int (2)))) .nil))) (.call 32 (.cons (.idx (.var 1) (.cst (.int (1)))) .nil))))) .nil))
def d37 : He.DefD := ⟨("can_do", none), "can_do", "can_do", a37, b37, s37, [], []⟩
def t38 : Stmt := (⟨_, by conv => lhs; whnf⟩ : { s : Stmt // top 78 = s }).1
def a38 : Arguments := (⟨_, by conv => lhs; whnf⟩ : { s : Arguments // defArgs t38 = s }).1
def b38 : List Stmt := (⟨_, by conv => lhs; whnf⟩ : { s : List Stmt // defBody t38 = s }).1
def s38 : Scope := (⟨_, by conv => lhs; whnf⟩ : { s : Scope // defScope t38 = s }).1
def N38 : List Str := ["world", "spot", "deed", "standing", "air", "sent"]
theorem sc38 : FnScope N38 ["world", "spot", "deed"] s38 := ⟨rfl, rfl, rfl, by decide +kernel, rfl, by decide +kernel, by decide +kernel⟩
def v38 : VSt := (.cons (.asg (.tup (.cons (.var 3) (.cons (.var 4) .nil))) (.tup (.cons (.idx (.var 1) (.cst (.int (0)))) (.cons (.call 32 (.cons (.idx (.var 1) (.cst (.int (1)))) .nil)) .nil)))) (.cons (.iff (.cmp 0 (.idx (.var 2) (.cst (.int (0)))) (.cst (.str 1069911604876130910309))) (.cons (.ret (.tup (.cons (.var 3) (.cons (.call 31 (.cons (.call 34 (.cons (.var 4) (.cons (.vls (.cons (.tup (.cons (.idx (.var 2) (.cst (.int (2)))) (.cons (.idx (.var 2) (.cst (.int (3)))) .nil))) .nil)) .nil))) .nil)) .nil)))) .nil) .nil) (.cons (.iff (.cmp 0 (.idx (.var 2) (.cst (.int (0)))) (.cst (.str 1014571372655002255461))) (.cons (.ret (.tup (.cons (.call 30 (.cons (.var 0) (.cons (.var 3) (.cons (.idx (.var 2) (.cst (.int (1)))) .nil)))) (.cons (.idx (.var 1) (.cst (.int (1)))) .nil)))) .nil) .nil) (.cons (.asg (.var 4) (.call 35 (.cons (.var 4) (.cons (.tup (.cons (.idx (.var 2) (.cst (.int (1)))) (.cons (.idx (.var 2) (.cst (.int (2)))) .nil))) .nil)))) (.cons (.iff (.cmp 0 (.idx (.var 2) (.cst (.int (0)))) (.cst (.str 1005348044598623076454))) (.cons (.ret (.tup (.cons (.var 3) (.cons (.call 31 (.cons (.var 4) .nil)) .nil)))) .nil) .nil) (.cons (.asg (.tup (.cons (.var 3) (.cons (.var 5) .nil))) (.call 29 (.cons (.var 0) (.cons (.var 3) (.cons (.idx (.var 2) (.cst (.int (1)))) (.cons (.idx (.var 2) (.cst (.int (2)))) .nil)))))) (.cons (.ret (.tup (.cons (.var 3) (.cons (.call 31 (.cons (.call 34 (.cons (.var 4) (.cons (.var 5) .nil))) .nil)) .nil)))) .nil)))))))
def d38 : He.DefD := ⟨("done", none), "done", "done", a38, b38, s38, [], []⟩
def t39 : Stmt := (⟨_, by conv => lhs; whnf⟩ : { s : Stmt // top 79 = s }).1
def a39 : Arguments := (⟨_, by conv => lhs; whnf⟩ : { s : Arguments // defArgs t39 = s }).1
def b39 : List Stmt := (⟨_, by conv => lhs; whnf⟩ : { s : List Stmt // defBody t39 = s }).1
def s39 : Scope := (⟨_, by conv => lhs; whnf⟩ : { s : Scope // defScope t39 = s }).1
def N39 : List Str := ["world", "value", "one"]
theorem sc39 : FnScope N39 ["world", "value"] s39 := ⟨rfl, rfl, rfl, by decide +kernel, rfl, by decide +kernel, by decide +kernel⟩
def v39 : VSt := (.cons (.iff (.or (.not (.call 1 (.cons (.var 1) .nil))) (.not (.bc 1 (.cons (.comp (.wip 2 (.cfor (.var 2) (.var 1) (.cif (.cst (.bl true)) (.cend (.and (.cmp 9 (.var 2) (.cst .non)) (.call 21 (.cons (.var 0) (.cons (.var 2) .nil))))))))) .nil)))) (.cons (.ret (.cst (.bl false))) .nil) .nil) (.cons (.ret (.cmp 0 (.call 5 (.cons (.var 1) .nil)) (.call 10 (.cons (.call 5 (.cons (.var 1) .nil)) .nil)))) .nil))
def d39 : He.DefD := ⟨("is_holding", none), "is_holding", "is_holding", a39, b39, s39, [], []⟩
def t40 : Stmt := (⟨_, by conv => lhs; whnf⟩ : { s : Stmt // top 80 = s }).1
def a40 : Arguments := (⟨_, by conv => lhs; whnf⟩ : { s : Arguments // defArgs t40 = s }).1
def b40 : List Stmt := (⟨_, by conv => lhs; whnf⟩ : { s : List Stmt // defBody t40 = s }).1
def s40 : Scope := (⟨_, by conv => lhs; whnf⟩ : { s : Scope // defScope t40 = s }).1
def N40 : List Str := ["world", "value", "part", "row", "one"]
theorem sc40 : FnScope N40 ["world", "value"] s40 := ⟨rfl, rfl, rfl, by decide +kernel, rfl, by decide +kernel, by decide +kernel⟩
def v40 : VSt := (.cons (.iff (.or (.not (.call 2 (.cons (.var 1) (.cons (.cst (.int (2))) .nil)))) (.or (.not (.call 2 (.cons (.idx (.var 1) (.cst (.int (0)))) (.cons (.bc 0 (.cons (.fld (.var 0) 2185738785754214935230939252) .nil)) .nil)))) (.not (.call 2 (.cons (.idx (.var 1) (.cst (.int (1)))) (.cons (.bc 0 (.cons (.fld (.var 0) 4583826543393248145051999130353766) .nil)) .nil)))))) (.cons (.ret (.cst (.bl false))) .nil) .nil) (.cons (.for_ (.tup (.cons (.var 2) (.cons (.var 3) .nil))) (.zip (.fld (.var 0) 2185738785754214935230939252) (.idx (.var 1) (.cst (.int (0))))) (.cons (.iff (.or (.not (.call 2 (.cons (.var 3) (.cons (.cst (.int (2))) .nil)))) (.or (.not (.call 3 (.cons (.idx (.var 3) (.cst (.int (0)))) .nil))) (.cmp 7 (.idx (.var 3) (.cst (.int (0)))) (.fld (.var 2) 4705521291157225747915760772055156)))) (.cons (.ret (.cst (.bl false))) .nil) .nil) (.cons (.iff (.or (.not (.call 2 (.cons (.idx (.var 3) (.cst (.int (1)))) (.cons (.bc 0 (.cons (.fld (.var 2) 2243767326552796346879836276) .nil)) .nil)))) (.not (.bc 1 (.cons (.comp (.wip 4 (.cfor (.var 4) (.idx (.var 3) (.cst (.int (1)))) (.cif (.cst (.bl true)) (.cend (.call 21 (.cons (.var 0) (.cons (.var 4) .nil)))))))) .nil)))) (.cons (.ret (.cst (.bl false))) .nil) .nil) .nil))) (.cons (.ret (.bc 1 (.cons (.comp (.wip 4 (.cfor (.var 4) (.idx (.var 1) (.cst (.int (1)))) (.cif (.cst (.bl true)) (.cend (.call 39 (.cons (.var 0) (.cons (.var 4) .nil)))))))) .nil))) .nil)))
def d40 : He.DefD := ⟨("is_standing", none), "is_standing", "is_standing", a40, b40, s40, [], []⟩
def t41 : Stmt := (⟨_, by conv => lhs; whnf⟩ : { s : Stmt // top 81 = s }).1
def a41 : Arguments := (⟨_, by conv => lhs; whnf⟩ : { s : Arguments // defArgs t41 = s }).1
def b41 : List Stmt := (⟨_, by conv => lhs; whnf⟩ : { s : List Stmt // defBody t41 = s }).1
def s41 : Scope := (⟨_, by conv => lhs; whnf⟩ : { s : Scope // defScope t41 = s }).1
def N41 : List Str := ["world", "value", "row", "keys", "one", "other"]
theorem sc41 : FnScope N41 ["world", "value"] s41 := ⟨rfl, rfl, rfl, by decide +kernel, rfl, by decide +kernel, by decide +kernel⟩
def v41 : VSt := (.cons (.iff (.or (.not (.call 1 (.cons (.var 1) .nil))) (.not (.bc 1 (.cons (.comp (.wip 2 (.cfor (.var 2) (.var 1) (.cif (.cst (.bl true)) (.cend (.call 2 (.cons (.var 2) (.cons (.cst (.int (3))) .nil)))))))) .nil)))) (.cons (.ret (.cst (.bl false))) .nil) .nil) (.cons (.iff (.not (.bc 1 (.cons (.comp (.wip 2 (.cfor (.var 2) (.var 1) (.cif (.cst (.bl true)) (.cend (.and (.call 23 (.cons (.var 0) (.cons (.slc (.var 2) .nop (.cst (.int (2)))) .nil))) (.call 24 (.cons (.idx (.var 2) (.cst (.int (2)))) .nil)))))))) .nil))) (.cons (.ret (.cst (.bl false))) .nil) .nil) (.cons (.asg (.var 3) (.comp (.wip 2 (.cfor (.var 2) (.var 1) (.cif (.cst (.bl true)) (.cend (.call 11 (.cons (.call 5 (.cons (.slc (.var 2) .nop (.cst (.int (2)))) .nil)) .nil)))))))) (.cons (.ret (.bc 1 (.cons (.comp (.wip 5 (.wip 4 (.cfor (.tup (.cons (.var 4) (.cons (.var 5) .nil))) (.zip (.var 3) (.slc (.var 3) (.cst (.int (1))) .nop)) (.cif (.cst (.bl true)) (.cend (.cmp 2 (.var 4) (.var 5)))))))) .nil))) .nil))))
def d41 : He.DefD := ⟨("is_air", none), "is_air", "is_air", a41, b41, s41, [], []⟩
def t42 : Stmt := (⟨_, by conv => lhs; whnf⟩ : { s : Stmt // top 82 = s }).1
def a42 : Arguments := (⟨_, by conv => lhs; whnf⟩ : { s : Arguments // defArgs t42 = s }).1
def b42 : List Stmt := (⟨_, by conv => lhs; whnf⟩ : { s : List Stmt // defBody t42 = s }).1
def s42 : Scope := (⟨_, by conv => lhs; whnf⟩ : { s : Scope // defScope t42 = s }).1
def N42 : List Str := ["world", "value"]
theorem sc42 : FnScope N42 ["world", "value"] s42 := ⟨rfl, rfl, rfl, by decide +kernel, rfl, by decide +kernel, by decide +kernel⟩
def v42 : VSt := (.cons (.ret (.and (.call 2 (.cons (.var 1) (.cons (.cst (.int (2))) .nil))) (.and (.call 40 (.cons (.var 0) (.cons (.idx (.var 1) (.cst (.int (0)))) .nil))) (.call 41 (.cons (.var 0) (.cons (.idx (.var 1) (.cst (.int (1)))) .nil)))))) .nil)
def d42 : He.DefD := ⟨("is_spot", none), "is_spot", "is_spot", a42, b42, s42, [], []⟩
def t43 : Stmt := (⟨_, by conv => lhs; whnf⟩ : { s : Stmt // top 83 = s }).1
def a43 : Arguments := (⟨_, by conv => lhs; whnf⟩ : { s : Arguments // defArgs t43 = s }).1
def b43 : List Stmt := (⟨_, by conv => lhs; whnf⟩ : { s : List Stmt // defBody t43 = s }).1
def s43 : Scope := (⟨_, by conv => lhs; whnf⟩ : { s : Scope // defScope t43 = s }).1
def N43 : List Str := ["world", "value"]
theorem sc43 : FnScope N43 ["world", "value"] s43 := ⟨rfl, rfl, rfl, by decide +kernel, rfl, by decide +kernel, by decide +kernel⟩
def v43 : VSt := (.cons (.iff (.not (.call 42 (.cons (.var 0) (.cons (.var 1) .nil)))) (.cons .raise .nil) .nil) (.cons (.ret (.call 5 (.cons (.var 1) .nil))) .nil))
def d43 : He.DefD := ⟨("need_spot", none), "need_spot", "need_spot", a43, b43, s43, [], []⟩
def t44 : Stmt := (⟨_, by conv => lhs; whnf⟩ : { s : Stmt // top 84 = s }).1
def a44 : Arguments := (⟨_, by conv => lhs; whnf⟩ : { s : Arguments // defArgs t44 = s }).1
def b44 : List Stmt := (⟨_, by conv => lhs; whnf⟩ : { s : List Stmt // defBody t44 = s }).1
def s44 : Scope := (⟨_, by conv => lhs; whnf⟩ : { s : Scope // defScope t44 = s }).1
def N44 : List Str := ["world", "value", "at", "deed"]
theorem sc44 : FnScope N44 ["world", "value"] s44 := ⟨rfl, rfl, rfl, by decide +kernel, rfl, by decide +kernel, by decide +kernel⟩
def v44 : VSt := (.cons (.iff (.not (.call 1 (.cons (.var 1) .nil))) (.cons .raise .nil) .nil) (.cons (.for_ (.tup (.cons (.var 2) (.cons (.var 3) .nil))) (.enum (.var 1)) (.cons (.iff (.not (.call 36 (.cons (.var 0) (.cons (.var 3) .nil)))) (.cons .raise .nil) .nil) .nil)) (.cons (.ret (.call 5 (.cons (.var 1) .nil))) .nil)))
def d44 : He.DefD := ⟨("need_deeds", none), "need_deeds", "need_deeds", a44, b44, s44, [], []⟩
def t45 : Stmt := (⟨_, by conv => lhs; whnf⟩ : { s : Stmt // top 85 = s }).1
def a45 : Arguments := (⟨_, by conv => lhs; whnf⟩ : { s : Arguments // defArgs t45 = s }).1
def b45 : List Stmt := (⟨_, by conv => lhs; whnf⟩ : { s : List Stmt // defBody t45 = s }).1
def s45 : Scope := (⟨_, by conv => lhs; whnf⟩ : { s : Scope // defScope t45 = s }).1
def N45 : List Str := ["world", "deeds", "spot", "told_deeds", "found", "at", "deed"]
theorem sc45 : FnScope N45 ["world", "deeds", "spot"] s45 := ⟨rfl, rfl, rfl, by decide +kernel, rfl, by decide +kernel, by decide +kernel⟩
def v45 : VSt := (.cons (.ex (.call 20 (.cons (.var 0) .nil))) (.cons (.asg (.var 3) (.call 44 (.cons (.var 0) (.cons (.var 1) .nil)))) (.cons (.asg (.var 4) (.lst (.cons (.ife (.cmp 8 (.var 2) (.cst .non)) (.call 33 (.cons (.var 0) .nil)) (.call 43 (.cons (.var 0) (.cons (.var 2) .nil)))) .nil))) (.cons (.for_ (.tup (.cons (.var 5) (.cons (.var 6) .nil))) (.enum (.var 3)) (.cons (.iff (.not (.call 37 (.cons (.var 0) (.cons (.idx (.var 4) (.cst (.int (-1)))) (.cons (.var 6) .nil))))) (.cons .raise .nil) .nil) (.cons (.ex (.bm 0 (.var 4) (.cons (.call 38 (.cons (.var 0) (.cons (.idx (.var 4) (.cst (.int (-1)))) (.cons (.var 6) .nil)))) .nil))) .nil))) (.cons (.ret (.bc 5 (.cons (.var 4) .nil))) .nil)))))
def d45 : He.DefD := ⟨("play", none), "play", "play", a45, b45, s45, [.non], []⟩
def t46 : Stmt := (⟨_, by conv => lhs; whnf⟩ : { s : Stmt // top 87 = s }).1
def a46 : Arguments := (⟨_, by conv => lhs; whnf⟩ : { s : Arguments // defArgs t46 = s }).1
def b46 : List Stmt := (⟨_, by conv => lhs; whnf⟩ : { s : List Stmt // defBody t46 = s }).1
def s46 : Scope := (⟨_, by conv => lhs; whnf⟩ : { s : Scope // defScope t46 = s }).1
def N46 : List Str := ["script", "seed", "cell"]
theorem sc46 : FnScope N46 ["script"] s46 := ⟨rfl, rfl, rfl, by decide +kernel, rfl, by decide +kernel, by decide +kernel⟩
def v46 : VSt := .raise
def d46 : He.DefD := ⟨("_law_pen", none), "_law_pen", "_law_pen", a46, b46, s46, [], []⟩
def t47 : Stmt := (⟨_, by conv => lhs; whnf⟩ : { s : Stmt // top 88 = s }).1
def a47 : Arguments := (⟨_, by conv => lhs; whnf⟩ : { s : Arguments // defArgs t47 = s }).1
def b47 : List Stmt := (⟨_, by conv => lhs; whnf⟩ : { s : List Stmt // defBody t47 = s }).1
def s47 : Scope := (⟨_, by conv => lhs; whnf⟩ : { s : Scope // defScope t47 = s }).1
def N47 : List Str := ["pen", "many"]
theorem sc47 : FnScope N47 ["pen", "many"] s47 := ⟨rfl, rfl, rfl, by decide +kernel, rfl, by decide +kernel, by decide +kernel⟩
def v47 : VSt := .raise
def d47 : He.DefD := ⟨("_law_draw", none), "_law_draw", "_law_draw", a47, b47, s47, [], []⟩
def t48 : Stmt := (⟨_, by conv => lhs; whnf⟩ : { s : Stmt // top 89 = s }).1
def a48 : Arguments := (⟨_, by conv => lhs; whnf⟩ : { s : Arguments // defArgs t48 = s }).1
def b48 : List Stmt := (⟨_, by conv => lhs; whnf⟩ : { s : List Stmt // defBody t48 = s }).1
def s48 : Scope := (⟨_, by conv => lhs; whnf⟩ : { s : Scope // defScope t48 = s }).1
def N48 : List Str := ["pen", "some"]
theorem sc48 : FnScope N48 ["pen", "some"] s48 := ⟨rfl, rfl, rfl, by decide +kernel, rfl, by decide +kernel, by decide +kernel⟩
def v48 : VSt := .raise
def d48 : He.DefD := ⟨("_law_pick", none), "_law_pick", "_law_pick", a48, b48, s48, [], []⟩
def t49 : Stmt := (⟨_, by conv => lhs; whnf⟩ : { s : Stmt // top 90 = s }).1
def a49 : Arguments := (⟨_, by conv => lhs; whnf⟩ : { s : Arguments // defArgs t49 = s }).1
def b49 : List Stmt := (⟨_, by conv => lhs; whnf⟩ : { s : List Stmt // defBody t49 = s }).1
def s49 : Scope := (⟨_, by conv => lhs; whnf⟩ : { s : Scope // defScope t49 = s }).1
def N49 : List Str := ["rule_rows", "holds", "value", "rules", "row", "part", "world", "right"]
theorem sc49 : FnScope N49 ["rule_rows", "holds", "value"] s49 := ⟨rfl, rfl, rfl, by decide +kernel, rfl, by decide +kernel, by decide +kernel⟩
def v49 : VSt := (.cons (.asg (.var 3) (.comp (.wip 4 (.cfor (.var 4) (.var 0) (.cif (.cst (.bl true)) (.cend (.mk 0 (.cons (.idx (.var 4) (.cst (.int (0)))) (.cons (.idx (.var 4) (.cst (.int (1)))) (.cons (.idx (.var 4) (.cst (.int (2)))) (.cons (.idx (.var 4) (.cst (.int (3)))) (.cons (.idx (.var 4) (.cst (.int (4)))) .nil)))))))))))) (.cons (.asg (.var 5) (.mk 1 (.cons (.cst (.str 113)) (.cons (.vls (.cons (.cst (.str 120)) (.cons (.cst (.str 119)) .nil))) (.cons (.vls (.cons (.cst (.str 116)) (.cons (.cst (.str 117)) .nil))) (.cons (.vls (.cons (.cst (.str 108)) (.cons (.cst (.str 109)) .nil))) (.cons (.vls (.cons (.tup (.cons (.cst (.str 245366896)) (.cons (.cst (.str 435406839480419)) (.cons (.cst (.str 435406839480441)) .nil)))) (.cons (.cst .non) .nil))) (.cons (.var 3) .nil)))))))) (.cons (.asg (.var 6) (.mk 3 (.cons (.vls (.cons (.cst (.str 110)) (.cons (.cst (.str 111)) .nil))) (.cons (.vls (.cons (.var 5) .nil)) (.cons (.vls (.cons (.mk 2 (.cons (.cst (.str 431008790872175)) (.cons (.vls .nil) (.cons (.cst (.bl true)) (.cons (.var 1) .nil))))) (.cons (.mk 2 (.cons (.cst (.str 435406839480419)) (.cons (.vls (.cons (.cst (.str 435406839480441)) .nil)) (.cons (.cst (.bl false)) (.cons (.vls .nil) .nil))))) .nil))) .nil))))) (.cons (.asg (.var 7) (.tup (.cons (.cst (.str 245366896)) (.cons (.cst (.str 113)) (.cons (.cst (.str 120)) .nil))))) (.cons (.ret (.idx (.call 45 (.cons (.var 6) (.cons (.vls (.cons (.tup (.cons (.cst (.str 1069911604876130910309)) (.cons (.cst (.str 431008790872175)) (.cons (.var 7) (.cons (.var 2) .nil))))) (.cons (.tup (.cons (.cst (.str 3975354506740296182261774190379110)) (.cons (.var 7) (.cons (.var 2) .nil)))) .nil))) (.cons (.cst .non) .nil)))) (.cst (.int (-1))))) .nil)))))
def d49 : He.DefD := ⟨("_law_one", none), "_law_one", "_law_one", a49, b49, s49, [], []⟩
def t50 : Stmt := (⟨_, by conv => lhs; whnf⟩ : { s : Stmt // top 91 = s }).1
def a50 : Arguments := (⟨_, by conv => lhs; whnf⟩ : { s : Arguments // defArgs t50 = s }).1
def b50 : List Stmt := (⟨_, by conv => lhs; whnf⟩ : { s : List Stmt // defBody t50 = s }).1
def s50 : Scope := (⟨_, by conv => lhs; whnf⟩ : { s : Scope // defScope t50 = s }).1
def N50 : List Str := ["script", "pen", "holds", "box", "m", "n", "value", "plain", "kept", "cases", "rules", "sent", "state", "air", "spot", "world", "take", "found", "person", "one", "deeds"]
theorem sc50 : FnScope N50 ["script"] s50 := ⟨rfl, rfl, rfl, by decide +kernel, rfl, by decide +kernel, by decide +kernel⟩
def v50 : VSt := .raise
def d50 : He.DefD := ⟨("law", none), "law", "law", a50, b50, s50, [], []⟩
def t51 : Stmt := (⟨_, by conv => lhs; whnf⟩ : { s : Stmt // inCls (top 48) 0 = s }).1
def a51 : Arguments := (⟨_, by conv => lhs; whnf⟩ : { s : Arguments // defArgs t51 = s }).1
def b51 : List Stmt := (⟨_, by conv => lhs; whnf⟩ : { s : List Stmt // defBody t51 = s }).1
def s51 : Scope := (⟨_, by conv => lhs; whnf⟩ : { s : Scope // defScope t51 = s }).1
def N51 : List Str := ["self", "state", "word", "whens", "acts", "later", "one"]
theorem sc51 : FnScope N51 ["self", "state", "word", "whens", "acts", "later"] s51 := ⟨rfl, rfl, rfl, by decide +kernel, rfl, by decide +kernel, by decide +kernel⟩
def v51 : VSt := (.cons (.iff (.not (.call 3 (.cons (.var 1) .nil))) (.cons .raise .nil) .nil) (.cons (.iff (.not (.call 3 (.cons (.var 2) .nil))) (.cons .raise .nil) .nil) (.cons (.iff (.or (.not (.call 4 (.cons (.var 3) (.cons (.cst (.int (0))) (.cons (.cst (.int 2)) .nil))))) (.not (.bc 1 (.cons (.comp (.wip 6 (.cfor (.var 6) (.var 3) (.cif (.cst (.bl true)) (.cend (.call 15 (.cons (.var 6) .nil))))))) .nil)))) (.cons .raise .nil) .nil) (.cons (.iff (.or (.not (.call 4 (.cons (.var 4) (.cons (.cst (.int (0))) (.cons (.cst (.int 3)) .nil))))) (.not (.bc 1 (.cons (.comp (.wip 6 (.cfor (.var 6) (.var 4) (.cif (.cst (.bl true)) (.cend (.call 16 (.cons (.var 6) .nil))))))) .nil)))) (.cons .raise .nil) .nil) (.cons (.iff (.not (.call 3 (.cons (.var 5) .nil))) (.cons .raise .nil) .nil) (.cons (.asgF (.var 0) 2243767400339711069066887270 (.var 1)) (.cons (.asgF (.var 0) 1106805137004023513189 (.var 2)) (.cons (.asgF (.var 0) 2321138542114600486164234356 (.call 5 (.cons (.var 3) .nil))) (.cons (.asgF (.var 0) 903890899416664506484 (.call 5 (.cons (.var 4) .nil))) (.cons (.asgF (.var 0) 2108367533298887464111308915 (.var 5)) .nil))))))))))
def d51 : He.DefD := ⟨("Rule", some "__init__"), "__init__", "Rule.__init__", a51, b51, s51, [], []⟩
def t52 : Stmt := (⟨_, by conv => lhs; whnf⟩ : { s : Stmt // inCls (top 48) 1 = s }).1
def a52 : Arguments := (⟨_, by conv => lhs; whnf⟩ : { s : Arguments // defArgs t52 = s }).1
def b52 : List Stmt := (⟨_, by conv => lhs; whnf⟩ : { s : List Stmt // defBody t52 = s }).1
def s52 : Scope := (⟨_, by conv => lhs; whnf⟩ : { s : Scope // defScope t52 = s }).1
def N52 : List Str := ["self", "other", "mine"]
theorem sc52 : FnScope N52 ["self", "other"] s52 := ⟨rfl, rfl, rfl, by decide +kernel, rfl, by decide +kernel, by decide +kernel⟩
def v52 : VSt := .raise
def d52 : He.DefD := ⟨("Rule", some "__eq__"), "__eq__", "Rule.__eq__", a52, b52, s52, [], []⟩
def t53 : Stmt := (⟨_, by conv => lhs; whnf⟩ : { s : Stmt // inCls (top 51) 0 = s }).1
def a53 : Arguments := (⟨_, by conv => lhs; whnf⟩ : { s : Arguments // defArgs t53 = s }).1
def b53 : List Stmt := (⟨_, by conv => lhs; whnf⟩ : { s : List Stmt // defBody t53 = s }).1
def s53 : Scope := (⟨_, by conv => lhs; whnf⟩ : { s : Scope // defScope t53 = s }).1
def N53 : List Str := ["self", "name", "words", "states", "slots", "begin", "rules", "one", "at", "rule", "slot"]
theorem sc53 : FnScope N53 ["self", "name", "words", "states", "slots", "begin", "rules"] s53 := ⟨rfl, rfl, rfl, by decide +kernel, rfl, by decide +kernel, by decide +kernel⟩
def v53 : VSt := (.cons (.iff (.not (.call 3 (.cons (.var 1) .nil))) (.cons .raise .nil) .nil) (.cons (.iff (.not (.call 17 (.cons (.var 2) (.cons (.cst (.int (1))) (.cons (.cst (.int 5)) .nil))))) (.cons .raise .nil) .nil) (.cons (.iff (.not (.call 17 (.cons (.var 3) (.cons (.cst (.int (1))) (.cons (.cst (.int 6)) .nil))))) (.cons .raise .nil) .nil) (.cons (.iff (.not (.call 17 (.cons (.var 4) (.cons (.cst (.int (0))) (.cons (.cst (.int 2)) .nil))))) (.cons .raise .nil) .nil) (.cons (.iff (.or (.not (.call 2 (.cons (.var 5) (.cons (.bc 0 (.cons (.var 4) .nil)) .nil)))) (.not (.bc 1 (.cons (.comp (.wip 7 (.cfor (.var 7) (.var 5) (.cif (.cst (.bl true)) (.cend (.call 8 (.cons (.var 7) .nil))))))) .nil)))) (.cons .raise .nil) .nil) (.cons (.iff (.or (.not (.call 4 (.cons (.var 6) (.cons (.cst (.int (0))) (.cons (.cst (.int 12)) .nil))))) (.not (.bc 1 (.cons (.comp (.wip 7 (.cfor (.var 7) (.var 6) (.cif (.cst (.bl true)) (.cend (.isi 64 (.var 7))))))) .nil)))) (.cons .raise .nil) .nil) (.cons (.for_ (.tup (.cons (.var 8) (.cons (.var 9) .nil))) (.enum (.var 6)) (.cons (.iff (.or (.cmp 7 (.fld (.var 9) 2243767400339711069066887270) (.var 3)) (.or (.cmp 7 (.fld (.var 9) 2108367533298887464111308915) (.var 3)) (.cmp 7 (.fld (.var 9) 1106805137004023513189) (.var 2)))) (.cons .raise .nil) .nil) (.cons (.iff (.not (.bc 1 (.cons (.comp (.wip 10 (.cfor (.var 10) (.call 18 (.cons (.var 9) .nil)) (.cif (.cst (.bl true)) (.cend (.cmp 6 (.var 10) (.var 4))))))) .nil))) (.cons .raise .nil) .nil) .nil))) (.cons (.asgF (.var 0) 1023794727099668889702 (.var 1)) (.cons (.asgF (.var 0) 2321138606678261918731337844 (.bc 5 (.cons (.var 2) .nil))) (.cons (.asgF (.var 0) 4705521291157225747915760772055156 (.bc 5 (.cons (.var 3) .nil))) (.cons (.asgF (.var 0) 2243767326552796346879836276 (.bc 5 (.cons (.var 4) .nil))) (.cons (.asgF (.var 0) 1914939439053977768981168239 (.call 5 (.cons (.var 5) .nil))) (.cons (.asgF (.var 0) 2224424596449297417606529140 (.bc 5 (.cons (.var 6) .nil))) .nil)))))))))))))
def d53 : He.DefD := ⟨("Part", some "__init__"), "__init__", "Part.__init__", a53, b53, s53, [], []⟩
def t54 : Stmt := (⟨_, by conv => lhs; whnf⟩ : { s : Stmt // inCls (top 51) 1 = s }).1
def a54 : Arguments := (⟨_, by conv => lhs; whnf⟩ : { s : Arguments // defArgs t54 = s }).1
def b54 : List Stmt := (⟨_, by conv => lhs; whnf⟩ : { s : List Stmt // defBody t54 = s }).1
def s54 : Scope := (⟨_, by conv => lhs; whnf⟩ : { s : Scope // defScope t54 = s }).1
def N54 : List Str := ["self", "other", "mine"]
theorem sc54 : FnScope N54 ["self", "other"] s54 := ⟨rfl, rfl, rfl, by decide +kernel, rfl, by decide +kernel, by decide +kernel⟩
def v54 : VSt := .raise
def d54 : He.DefD := ⟨("Part", some "__eq__"), "__eq__", "Part.__eq__", a54, b54, s54, [], []⟩
def t55 : Stmt := (⟨_, by conv => lhs; whnf⟩ : { s : Stmt // inCls (top 52) 0 = s }).1
def a55 : Arguments := (⟨_, by conv => lhs; whnf⟩ : { s : Arguments // defArgs t55 = s }).1
def b55 : List Stmt := (⟨_, by conv => lhs; whnf⟩ : { s : List Stmt // defBody t55 = s }).1
def s55 : Scope := (⟨_, by conv => lhs; whnf⟩ : { s : Scope // defScope t55 = s }).1
def N55 : List Str := ["self", "name", "words", "is_friend", "holds", "one"]
theorem sc55 : FnScope N55 ["self", "name", "words", "is_friend", "holds"] s55 := ⟨rfl, rfl, rfl, by decide +kernel, rfl, by decide +kernel, by decide +kernel⟩
def v55 : VSt := (.cons (.iff (.not (.call 3 (.cons (.var 1) .nil))) (.cons .raise .nil) .nil) (.cons (.iff (.not (.call 17 (.cons (.var 2) (.cons (.cst (.int (0))) (.cons (.cst (.int 5)) .nil))))) (.cons .raise .nil) .nil) (.cons (.iff (.not (.isi 2 (.var 3))) (.cons .raise .nil) .nil) (.cons (.iff (.or (.not (.call 4 (.cons (.var 4) (.cons (.cst (.int (0))) (.cons (.cst (.int 8)) .nil))))) (.not (.bc 1 (.cons (.comp (.wip 5 (.cfor (.var 5) (.var 4) (.cif (.cst (.bl true)) (.cend (.or (.call 6 (.cons (.var 5) .nil)) (.call 7 (.cons (.var 5) .nil)))))))) .nil)))) (.cons .raise .nil) .nil) (.cons (.iff (.not (.call 12 (.cons (.call 5 (.cons (.var 4) .nil)) (.cons (.cst (.gf 9)) .nil)))) (.cons .raise .nil) .nil) (.cons (.asgF (.var 0) 1023794727099668889702 (.var 1)) (.cons (.asgF (.var 0) 2321138606678261918731337844 (.bc 5 (.cons (.var 2) .nil))) (.cons (.asgF (.var 0) 39659329125711092605777748091635463905776548280533093 (.var 3)) (.cons (.asgF (.var 0) 2030996409970724528522788980 (.call 5 (.cons (.var 4) .nil))) .nil)))))))))
def d55 : He.DefD := ⟨("Person", some "__init__"), "__init__", "Person.__init__", a55, b55, s55, [], []⟩
def t56 : Stmt := (⟨_, by conv => lhs; whnf⟩ : { s : Stmt // inCls (top 52) 1 = s }).1
def a56 : Arguments := (⟨_, by conv => lhs; whnf⟩ : { s : Arguments // defArgs t56 = s }).1
def b56 : List Stmt := (⟨_, by conv => lhs; whnf⟩ : { s : List Stmt // defBody t56 = s }).1
def s56 : Scope := (⟨_, by conv => lhs; whnf⟩ : { s : Scope // defScope t56 = s }).1
def N56 : List Str := ["self", "other", "mine"]
theorem sc56 : FnScope N56 ["self", "other"] s56 := ⟨rfl, rfl, rfl, by decide +kernel, rfl, by decide +kernel, by decide +kernel⟩
def v56 : VSt := .raise
def d56 : He.DefD := ⟨("Person", some "__eq__"), "__eq__", "Person.__eq__", a56, b56, s56, [], []⟩
def t57 : Stmt := (⟨_, by conv => lhs; whnf⟩ : { s : Stmt // inCls (top 54) 0 = s }).1
def a57 : Arguments := (⟨_, by conv => lhs; whnf⟩ : { s : Arguments // defArgs t57 = s }).1
def b57 : List Stmt := (⟨_, by conv => lhs; whnf⟩ : { s : List Stmt // defBody t57 = s }).1
def s57 : Scope := (⟨_, by conv => lhs; whnf⟩ : { s : Scope // defScope t57 = s }).1
def N57 : List Str := ["self", "marks", "parts", "people", "one", "other", "told", "part", "rule", "value", "person", "at"]
theorem sc57 : FnScope N57 ["self", "marks", "parts", "people"] s57 := ⟨rfl, rfl, rfl, by decide +kernel, rfl, by decide +kernel, by decide +kernel⟩
def v57 : VSt := (.cons (.iff (.or (.not (.call 17 (.cons (.var 1) (.cons (.cst (.int (0))) (.cons (.cst (.int 4)) .nil))))) (.cmp 1 (.bc 6 (.cons (.var 1) .nil)) (.bc 3 (.cons (.var 1) .nil)))) (.cons .raise .nil) .nil) (.cons (.iff (.or (.not (.call 4 (.cons (.var 2) (.cons (.cst (.int (1))) (.cons (.cst (.int 4)) .nil))))) (.not (.bc 1 (.cons (.comp (.wip 4 (.cfor (.var 4) (.var 2) (.cif (.cst (.bl true)) (.cend (.isi 128 (.var 4))))))) .nil)))) (.cons .raise .nil) .nil) (.cons (.iff (.not (.bc 1 (.cons (.comp (.wip 5 (.wip 4 (.cfor (.tup (.cons (.var 4) (.cons (.var 5) .nil))) (.zip (.var 2) (.slc (.var 2) (.cst (.int (1))) .nop)) (.cif (.cst (.bl true)) (.cend (.cmp 2 (.fld (.var 4) 1023794727099668889702) (.fld (.var 5) 1023794727099668889702)))))))) .nil))) (.cons .raise .nil) .nil) (.cons (.iff (.or (.not (.call 4 (.cons (.var 3) (.cons (.cst (.int (1))) (.cons (.cst (.int 4)) .nil))))) (.not (.bc 1 (.cons (.comp (.wip 4 (.cfor (.var 4) (.var 3) (.cif (.cst (.bl true)) (.cend (.isi 256 (.var 4))))))) .nil)))) (.cons .raise .nil) .nil) (.cons (.iff (.not (.bc 1 (.cons (.comp (.wip 5 (.wip 4 (.cfor (.tup (.cons (.var 4) (.cons (.var 5) .nil))) (.zip (.var 3) (.slc (.var 3) (.cst (.int (1))) .nop)) (.cif (.cst (.bl true)) (.cend (.cmp 2 (.fld (.var 4) 1023794727099668889702) (.fld (.var 5) 1023794727099668889702)))))))) .nil))) (.cons .raise .nil) .nil) (.cons (.asgF (.var 0) 2127710346412712734826168436 (.bc 5 (.cons (.var 1) .nil))) (.cons (.asgF (.var 0) 2185738785754214935230939252 (.bc 5 (.cons (.var 2) .nil))) (.cons (.asgF (.var 0) 4583826543393248145051999130353766 (.bc 5 (.cons (.var 3) .nil))) (.cons (.asgF (.var 0) 4543262072356571629796891589345396 (.dcomp (.wip 4 (.cfor (.var 4) (.vls (.lim (.star (.fld (.var 0) 2185738785754214935230939252) (.star (.fld (.var 0) 4583826543393248145051999130353766) .nil)))) (.cif (.cst (.bl true)) (.cend2 (.fld (.var 4) 1023794727099668889702) (.var 4))))))) (.cons (.iff (.cmp 1 (.bc 0 (.cons (.fld (.var 0) 4543262072356571629796891589345396) .nil)) (.bin 0 (.bc 0 (.cons (.fld (.var 0) 2185738785754214935230939252) .nil)) (.bc 0 (.cons (.fld (.var 0) 4583826543393248145051999130353766) .nil)))) (.cons .raise .nil) .nil) (.cons (.asg (.var 6) (.compH (.wip 9 (.wip 8 (.wip 7 (.cfor (.var 7) (.fld (.var 0) 2185738785754214935230939252) (.cif (.cst (.bl true)) (.wip 9 (.wip 8 (.cfor (.var 8) (.fld (.var 7) 2224424596449297417606529140) (.cif (.cst (.bl true)) (.wip 9 (.cfor (.var 9) (.call 19 (.cons (.var 8) .nil)) (.cif (.cst (.bl true)) (.cend (.var 9)))))))))))))))) (.cons (.ex (.bm 1 (.var 6) (.cons (.comp (.wip 9 (.wip 7 (.cfor (.var 7) (.fld (.var 0) 2185738785754214935230939252) (.cif (.cst (.bl true)) (.wip 9 (.cfor (.var 9) (.fld (.var 7) 1914939439053977768981168239) (.cif (.cmp 9 (.var 9) (.cst .non)) (.cend (.var 9)))))))))) .nil))) (.cons (.ex (.bm 1 (.var 6) (.cons (.comp (.wip 9 (.wip 10 (.cfor (.var 10) (.fld (.var 0) 4583826543393248145051999130353766) (.cif (.cst (.bl true)) (.wip 9 (.cfor (.var 9) (.fld (.var 10) 2030996409970724528522788980) (.cif (.cst (.bl true)) (.cend (.var 9)))))))))) .nil))) (.cons (.iff (.not (.bc 1 (.cons (.comp (.wip 9 (.cfor (.var 9) (.var 6) (.cif (.cst (.bl true)) (.cend (.meth 39285181495248774281858523428554036346873228694650982 (.var 0) (.cons (.var 9) .nil))))))) .nil))) (.cons .raise .nil) .nil) (.cons (.asgF (.var 0) 2243767363446284494298939508 (.dcomp (.wip 4 (.wip 11 (.cfor (.tup (.cons (.var 11) (.cons (.var 4) .nil))) (.enum (.fld (.var 0) 2185738785754214935230939252)) (.cif (.cst (.bl true)) (.cend2 (.fld (.var 4) 1023794727099668889702) (.var 11)))))))) (.cons (.asgF (.var 0) 2243767261989130516245250164 (.dcomp (.wip 4 (.wip 11 (.cfor (.tup (.cons (.var 11) (.cons (.var 4) .nil))) (.enum (.fld (.var 0) 4583826543393248145051999130353766)) (.cif (.cst (.bl true)) (.cend2 (.fld (.var 4) 1023794727099668889702) (.var 11)))))))) .nil))))))))))))))))
def d57 : He.DefD := ⟨("World", some "__init__"), "__init__", "World.__init__", a57, b57, s57, [], []⟩
def t58 : Stmt := (⟨_, by conv => lhs; whnf⟩ : { s : Stmt // inCls (top 54) 1 = s }).1
def a58 : Arguments := (⟨_, by conv => lhs; whnf⟩ : { s : Arguments // defArgs t58 = s }).1
def b58 : List Stmt := (⟨_, by conv => lhs; whnf⟩ : { s : List Stmt // defBody t58 = s }).1
def s58 : Scope := (⟨_, by conv => lhs; whnf⟩ : { s : Scope // defScope t58 = s }).1
def N58 : List Str := ["self", "value"]
theorem sc58 : FnScope N58 ["self", "value"] s58 := ⟨rfl, rfl, rfl, by decide +kernel, rfl, by decide +kernel, by decide +kernel⟩
def v58 : VSt := (.cons (.iff (.cmp 0 (.idx (.var 1) (.cst (.int (0)))) (.cst (.str 245366896))) (.cons (.ret (.and (.cmp 6 (.idx (.var 1) (.cst (.int (1)))) (.fld (.var 0) 4543262072356571629796891589345396)) (.cmp 6 (.idx (.var 1) (.cst (.int (2)))) (.fld (.idx (.fld (.var 0) 4543262072356571629796891589345396) (.idx (.var 1) (.cst (.int (1))))) 2321138606678261918731337844)))) .nil) .nil) (.cons (.ret (.cmp 6 (.idx (.var 1) (.cst (.int (1)))) (.fld (.var 0) 2127710346412712734826168436))) .nil))
def d58 : He.DefD := ⟨("World", some "has_value"), "has_value", "World.has_value", a58, b58, s58, [], []⟩
def t59 : Stmt := (⟨_, by conv => lhs; whnf⟩ : { s : Stmt // inCls (top 54) 2 = s }).1
def a59 : Arguments := (⟨_, by conv => lhs; whnf⟩ : { s : Arguments // defArgs t59 = s }).1
def b59 : List Stmt := (⟨_, by conv => lhs; whnf⟩ : { s : List Stmt // defBody t59 = s }).1
def s59 : Scope := (⟨_, by conv => lhs; whnf⟩ : { s : Scope // defScope t59 = s }).1
def N59 : List Str := ["self", "other"]
theorem sc59 : FnScope N59 ["self", "other"] s59 := ⟨rfl, rfl, rfl, by decide +kernel, rfl, by decide +kernel, by decide +kernel⟩
def v59 : VSt := .raise
def d59 : He.DefD := ⟨("World", some "__eq__"), "__eq__", "World.__eq__", a59, b59, s59, [], []⟩
def fns : List He.DefD := [d0, d1, d2, d3, d4, d5, d6, d7, d8, d9, d10, d11, d12, d13, d14, d15, d16, d17, d18, d19, d20, d21, d22, d23, d24, d25, d26, d27, d28, d29, d30, d31, d32, d33, d34, d35, d36, d37, d38, d39, d40, d41, d42, d43, d44, d45, d46, d47, d48, d49, d50, d51, d52, d53, d54, d55, d56, d57, d58, d59]
def clsN : List Str := ["Rule", "Part", "Person", "World"]
def fnT (n : Nat) : Fn := (Bool.rec (Bool.rec (Bool.rec (Bool.rec (Bool.rec ⟨1, 0, true, v0⟩ (Bool.rec ⟨1, 0, true, v1⟩ ⟨2, 0, true, v2⟩ (Nat.ble 2 n)) (Nat.ble 1 n)) (Bool.rec (Bool.rec ⟨1, 1, true, v3⟩ ⟨3, 0, true, v4⟩ (Nat.ble 4 n)) (Bool.rec ⟨1, 1, true, v5⟩ ⟨1, 0, true, v6⟩ (Nat.ble 6 n)) (Nat.ble 5 n)) (Nat.ble 3 n)) (Bool.rec (Bool.rec (Bool.rec ⟨1, 0, true, v7⟩ ⟨1, 0, true, v8⟩ (Nat.ble 8 n)) (Bool.rec ⟨1, 0, true, v9⟩ ⟨1, 1, true, v10⟩ (Nat.ble 10 n)) (Nat.ble 9 n)) (Bool.rec (Bool.rec ⟨1, 0, true, v11⟩ ⟨2, 2, true, v12⟩ (Nat.ble 12 n)) (Bool.rec ⟨2, 0, true, v13⟩ ⟨1, 0, true, v14⟩ (Nat.ble 14 n)) (Nat.ble 13 n)) (Nat.ble 11 n)) (Nat.ble 7 n)) (Bool.rec (Bool.rec (Bool.rec ⟨1, 0, true, v15⟩ (Bool.rec ⟨1, 0, true, v16⟩ ⟨3, 1, true, v17⟩ (Nat.ble 17 n)) (Nat.ble 16 n)) (Bool.rec (Bool.rec ⟨1, 4, true, v18⟩ ⟨1, 3, true, v19⟩ (Nat.ble 19 n)) (Bool.rec ⟨1, 0, true, v20⟩ ⟨2, 0, true, v21⟩ (Nat.ble 21 n)) (Nat.ble 20 n)) (Nat.ble 18 n)) (Bool.rec (Bool.rec (Bool.rec ⟨2, 0, true, v22⟩ ⟨2, 0, true, v23⟩ (Nat.ble 23 n)) (Bool.rec ⟨1, 0, true, v24⟩ ⟨1, 3, true, v25⟩ (Nat.ble 25 n)) (Nat.ble 24 n)) (Bool.rec (Bool.rec ⟨4, 0, true, v26⟩ ⟨4, 1, true, v27⟩ (Nat.ble 27 n)) (Bool.rec ⟨5, 2, true, v28⟩ ⟨4, 14, true, v29⟩ (Nat.ble 29 n)) (Nat.ble 28 n)) (Nat.ble 26 n)) (Nat.ble 22 n)) (Nat.ble 15 n)) (Bool.rec (Bool.rec (Bool.rec (Bool.rec ⟨3, 2, true, v30⟩ (Bool.rec ⟨1, 3, true, v31⟩ ⟨1, 3, true, v32⟩ (Nat.ble 32 n)) (Nat.ble 31 n)) (Bool.rec (Bool.rec ⟨1, 0, true, v33⟩ ⟨2, 2, true, v34⟩ (Nat.ble 34 n)) (Bool.rec ⟨2, 1, true, v35⟩ ⟨2, 0, true, v36⟩ (Nat.ble 36 n)) (Nat.ble 35 n)) (Nat.ble 33 n)) (Bool.rec (Bool.rec (Bool.rec ⟨3, 1, true, v37⟩ ⟨3, 3, true, v38⟩ (Nat.ble 38 n)) (Bool.rec ⟨2, 1, true, v39⟩ ⟨2, 3, true, v40⟩ (Nat.ble 40 n)) (Nat.ble 39 n)) (Bool.rec (Bool.rec ⟨2, 4, true, v41⟩ ⟨2, 0, true, v42⟩ (Nat.ble 42 n)) (Bool.rec ⟨2, 0, true, v43⟩ ⟨2, 2, true, v44⟩ (Nat.ble 44 n)) (Nat.ble 43 n)) (Nat.ble 41 n)) (Nat.ble 37 n)) (Bool.rec (Bool.rec (Bool.rec ⟨3, 4, true, v45⟩ (Bool.rec ⟨1, 2, true, v46⟩ ⟨2, 0, false, v47⟩ (Nat.ble 47 n)) (Nat.ble 46 n)) (Bool.rec (Bool.rec ⟨2, 0, true, v48⟩ ⟨3, 5, true, v49⟩ (Nat.ble 49 n)) (Bool.rec ⟨1, 20, true, v50⟩ ⟨6, 1, false, v51⟩ (Nat.ble 51 n)) (Nat.ble 50 n)) (Nat.ble 48 n)) (Bool.rec (Bool.rec (Bool.rec ⟨2, 1, true, v52⟩ ⟨7, 4, false, v53⟩ (Nat.ble 53 n)) (Bool.rec ⟨2, 1, true, v54⟩ ⟨5, 1, false, v55⟩ (Nat.ble 55 n)) (Nat.ble 54 n)) (Bool.rec (Bool.rec ⟨2, 1, true, v56⟩ ⟨4, 8, false, v57⟩ (Nat.ble 57 n)) (Bool.rec ⟨2, 0, true, v58⟩ ⟨2, 0, true, v59⟩ (Nat.ble 59 n)) (Nat.ble 58 n)) (Nat.ble 56 n)) (Nat.ble 52 n)) (Nat.ble 45 n)) (Nat.ble 30 n))
def initT (n : Nat) : Nat := sel n [51, 53, 55, 57] 0
def subT (n : Nat) : Nat := sel n [64, 128, 256, 512] 0
def methT (c m : Nat) : Nat := sel c [0, 0, 0, (Bool.rec 0 59 (Nat.beq m 39285181495248774281858523428554036346873228694650982))] 0
def prg : Prog := ⟨fnT, initT, subT, methT⟩
def fa : List He.Fa := [.free "bool", .free "isinstance", .free "int", .free "list", .free "tuple", .free "len", .glo "is_listed", .str "LETTERS" "abcdefghijklmnopqrstuvwxyz", .free "all", .int "MOST_LETTERS" (8), .free "str", .glo "fixed", .glo "is_name", .str "MARK" "mark", .glo "is_row", .str "TO" "to", .glo "is_right", .glo "is_mark", .free "sorted", .glo "order_of", .free "zip", .glo "is_value", .str "SLOT" "slot", .glo "is_word", .str "ARG" "arg", .str "HAS" "has", .str "IS" "is", .str "SAME" "same", .glo "is_term", .str "SEND" "send", .str "KEEP" "keep", .glo "are_so_many", .glo "World", .glo "is_value_of", .glo "is_right_of", .glo "is_integer", .glo "is_so", .glo "told", .glo "rule_for", .glo "in_order", .glo "message_order", .glo "first_standing", .glo "need_world", .free "dict", .glo "is_message_of", .str "LOSE" "lose", .str "ARRIVE" "arrive", .str "MEND" "mend", .str "SENT" "send", .glo "air_of", .glo "with_more", .glo "air_rows", .glo "heard", .glo "with_less", .glo "mended", .glo "is_holding", .glo "is_count", .glo "is_air", .glo "is_standing", .glo "is_spot", .free "enumerate", .glo "is_deed", .glo "done", .glo "can_do", .glo "first_spot", .glo "need_spot", .glo "need_deeds", .glo "play", .glo "Person", .glo "Part", .glo "Rule", .glo "is_act", .int "MOST_ACTS" (3), .glo "is_when", .int "MOST_WHENS" (2), .glo "slots_in", .int "MOST_RULES" (12), .int "MOST_SLOTS" (2), .glo "are_names", .int "MOST_STATES" (6), .int "MOST_WORDS" (5), .glo "are_ascending", .int "MOST_HOLDS" (8), .glo "values_in", .int "MOST_PEOPLE" (4), .int "MOST_PARTS" (4), .int "MOST_MARKS" (4), .free "repr", .glo "_law_one", .glo "_law_pen", .glo "_law_draw", .glo "_law_pick", .cls "Rule", .mkr "Rule", .cls "Part", .mkr "Part", .cls "Person", .mkr "Person", .cls "World", .mkr "World", .noat "Rule" "whens", .noat "Part" "whens", .noat "Person" "whens", .noat "World" "whens", .noat "Rule" "acts", .noat "Part" "acts", .noat "Person" "acts", .noat "World" "acts", .noat "Rule" "people", .noat "Part" "people", .noat "Person" "people", .noat "World" "people", .noat "Rule" "holds", .noat "Part" "holds", .noat "Person" "holds", .noat "World" "holds", .noat "Rule" "parts", .noat "Part" "parts", .noat "Person" "parts", .noat "World" "parts", .noat "Rule" "begin", .noat "Part" "begin", .noat "Person" "begin", .noat "World" "begin", .noat "Rule" "states", .noat "Part" "states", .noat "Person" "states", .noat "World" "states", .noat "Rule" "slots", .noat "Part" "slots", .noat "Person" "slots", .noat "World" "slots", .noat "Rule" "rules", .noat "Part" "rules", .noat "Person" "rules", .noat "World" "rules", .noat "Rule" "word", .noat "Part" "word", .noat "Person" "word", .noat "World" "word", .noat "Rule" "state", .noat "Part" "state", .noat "Person" "state", .noat "World" "state", .noat "Rule" "later", .noat "Part" "later", .noat "Person" "later", .noat "World" "later", .noat "Rule" "spots", .noat "Part" "spots", .noat "Person" "spots", .noat "World" "spots", .noat "Rule" "seats", .noat "Part" "seats", .noat "Person" "seats", .noat "World" "seats", .noat "Rule" "words", .noat "Part" "words", .noat "Person" "words", .noat "World" "words", .noat "Rule" "name", .noat "Part" "name", .noat "Person" "name", .noat "World" "name", .noat "Rule" "is_friend", .noat "Part" "is_friend", .noat "Person" "is_friend", .noat "World" "is_friend", .noat "Rule" "owners", .noat "Part" "owners", .noat "Person" "owners", .noat "World" "owners", .noat "Rule" "marks", .noat "Part" "marks", .noat "Person" "marks", .noat "World" "marks", .meth "World" "has_value", .glo "law"]
def exL : List (PySem.W.Frag → Bool) := [isiB clsN prg 2 (fun K => [.type "bool"]), isiB clsN prg 1 (fun K => [.type "int"]), isiB clsN prg 24 (fun K => [.type "list", .type "tuple"]), isiB clsN prg 4 (fun K => [.type "str"]), isiB clsN prg 16 (fun K => [.type "tuple"]), isiB clsN prg 512 (fun K => [.ref (He.ga K "World")]), isiB clsN prg 64 (fun K => [.ref (He.ga K "Rule")]), isiB clsN prg 256 (fun K => [.ref (He.ga K "Person")]), isiB clsN prg 128 (fun K => [.ref (He.ga K "Part")]), insB "Rule", insB "Part", insB "Person", insB "World"]
def ex (K : PySem.W.Frag) : Bool := exL.all fun f => f K
abbrev Tdf : List (Nat × List V) := [(45, [.non])]
abbrev Cc (P : Program) (w : World) (K : PySem.W.Frag) : Ct := ctOf fns clsN P w K
section
variable {P : Program} {w : World} {K : PySem.W.Frag} {mg : Str → Option Value} {X : Cx}
theorem insA (nm : Nm fa fns ex K mg) : ∀ c A, (Cc P w K).CA c = some A → InsOk K A := fun c A hA => by
  obtain ⟨x, hx, rfl⟩ := ctCA hA
  match c, hx with
  | 0, hx => cases hx; exact ins_of (all_at (l := exL) nm.ex 9)
  | 1, hx => cases hx; exact ins_of (all_at (l := exL) nm.ex 10)
  | 2, hx => cases hx; exact ins_of (all_at (l := exL) nm.ex 11)
  | 3, hx => cases hx; exact ins_of (all_at (l := exL) nm.ex 12)
  | c + 4, hx => cases hx
theorem tab0 (nm : Nm fa fns ex K mg) : IsiTab (Cc P w K) K prg 2 [.type "bool"] := isi_of (us := fun K => [.type "bool"]) (all_at (l := exL) nm.ex 0) (insA nm)
theorem tab1 (nm : Nm fa fns ex K mg) : IsiTab (Cc P w K) K prg 1 [.type "int"] := isi_of (us := fun K => [.type "int"]) (all_at (l := exL) nm.ex 1) (insA nm)
theorem tab2 (nm : Nm fa fns ex K mg) : IsiTab (Cc P w K) K prg 24 [.type "list", .type "tuple"] := isi_of (us := fun K => [.type "list", .type "tuple"]) (all_at (l := exL) nm.ex 2) (insA nm)
theorem tab3 (nm : Nm fa fns ex K mg) : IsiTab (Cc P w K) K prg 4 [.type "str"] := isi_of (us := fun K => [.type "str"]) (all_at (l := exL) nm.ex 3) (insA nm)
theorem tab4 (nm : Nm fa fns ex K mg) : IsiTab (Cc P w K) K prg 16 [.type "tuple"] := isi_of (us := fun K => [.type "tuple"]) (all_at (l := exL) nm.ex 4) (insA nm)
theorem tab5 (nm : Nm fa fns ex K mg) : IsiTab (Cc P w K) K prg 512 [.ref (He.ga K "World")] := isi_of (us := fun K => [.ref (He.ga K "World")]) (all_at (l := exL) nm.ex 5) (insA nm)
theorem tab6 (nm : Nm fa fns ex K mg) : IsiTab (Cc P w K) K prg 64 [.ref (He.ga K "Rule")] := isi_of (us := fun K => [.ref (He.ga K "Rule")]) (all_at (l := exL) nm.ex 6) (insA nm)
theorem tab7 (nm : Nm fa fns ex K mg) : IsiTab (Cc P w K) K prg 256 [.ref (He.ga K "Person")] := isi_of (us := fun K => [.ref (He.ga K "Person")]) (all_at (l := exL) nm.ex 7) (insA nm)
theorem tab8 (nm : Nm fa fns ex K mg) : IsiTab (Cc P w K) K prg 128 [.ref (He.ga K "Part")] := isi_of (us := fun K => [.ref (He.ga K "Part")]) (all_at (l := exL) nm.ex 8) (insA nm)
theorem fl_whens (nm : Nm fa fns ex K mg) (hX : X.K = K) : FldOk (Cc P w K) X "whens" := by
  subst hX
  refine fld_of (cls := clsN) rfl fun c hc => ?_
  simp only [clsN, List.mem_cons, List.not_mem_nil, or_false] at hc
  rcases hc with rfl | rfl | rfl | rfl
  · exact ⟨nm.c.fact 92, nm.c.fact 100⟩
  · exact ⟨nm.c.fact 94, nm.c.fact 101⟩
  · exact ⟨nm.c.fact 96, nm.c.fact 102⟩
  · exact ⟨nm.c.fact 98, nm.c.fact 103⟩
theorem fl_acts (nm : Nm fa fns ex K mg) (hX : X.K = K) : FldOk (Cc P w K) X "acts" := by
  subst hX
  refine fld_of (cls := clsN) rfl fun c hc => ?_
  simp only [clsN, List.mem_cons, List.not_mem_nil, or_false] at hc
  rcases hc with rfl | rfl | rfl | rfl
  · exact ⟨nm.c.fact 92, nm.c.fact 104⟩
  · exact ⟨nm.c.fact 94, nm.c.fact 105⟩
  · exact ⟨nm.c.fact 96, nm.c.fact 106⟩
  · exact ⟨nm.c.fact 98, nm.c.fact 107⟩
theorem fl_people (nm : Nm fa fns ex K mg) (hX : X.K = K) : FldOk (Cc P w K) X "people" := by
  subst hX
  refine fld_of (cls := clsN) rfl fun c hc => ?_
  simp only [clsN, List.mem_cons, List.not_mem_nil, or_false] at hc
  rcases hc with rfl | rfl | rfl | rfl
  · exact ⟨nm.c.fact 92, nm.c.fact 108⟩
  · exact ⟨nm.c.fact 94, nm.c.fact 109⟩
  · exact ⟨nm.c.fact 96, nm.c.fact 110⟩
  · exact ⟨nm.c.fact 98, nm.c.fact 111⟩
theorem fl_holds (nm : Nm fa fns ex K mg) (hX : X.K = K) : FldOk (Cc P w K) X "holds" := by
  subst hX
  refine fld_of (cls := clsN) rfl fun c hc => ?_
  simp only [clsN, List.mem_cons, List.not_mem_nil, or_false] at hc
  rcases hc with rfl | rfl | rfl | rfl
  · exact ⟨nm.c.fact 92, nm.c.fact 112⟩
  · exact ⟨nm.c.fact 94, nm.c.fact 113⟩
  · exact ⟨nm.c.fact 96, nm.c.fact 114⟩
  · exact ⟨nm.c.fact 98, nm.c.fact 115⟩
theorem fl_parts (nm : Nm fa fns ex K mg) (hX : X.K = K) : FldOk (Cc P w K) X "parts" := by
  subst hX
  refine fld_of (cls := clsN) rfl fun c hc => ?_
  simp only [clsN, List.mem_cons, List.not_mem_nil, or_false] at hc
  rcases hc with rfl | rfl | rfl | rfl
  · exact ⟨nm.c.fact 92, nm.c.fact 116⟩
  · exact ⟨nm.c.fact 94, nm.c.fact 117⟩
  · exact ⟨nm.c.fact 96, nm.c.fact 118⟩
  · exact ⟨nm.c.fact 98, nm.c.fact 119⟩
theorem fl_begin (nm : Nm fa fns ex K mg) (hX : X.K = K) : FldOk (Cc P w K) X "begin" := by
  subst hX
  refine fld_of (cls := clsN) rfl fun c hc => ?_
  simp only [clsN, List.mem_cons, List.not_mem_nil, or_false] at hc
  rcases hc with rfl | rfl | rfl | rfl
  · exact ⟨nm.c.fact 92, nm.c.fact 120⟩
  · exact ⟨nm.c.fact 94, nm.c.fact 121⟩
  · exact ⟨nm.c.fact 96, nm.c.fact 122⟩
  · exact ⟨nm.c.fact 98, nm.c.fact 123⟩
theorem fl_states (nm : Nm fa fns ex K mg) (hX : X.K = K) : FldOk (Cc P w K) X "states" := by
  subst hX
  refine fld_of (cls := clsN) rfl fun c hc => ?_
  simp only [clsN, List.mem_cons, List.not_mem_nil, or_false] at hc
  rcases hc with rfl | rfl | rfl | rfl
  · exact ⟨nm.c.fact 92, nm.c.fact 124⟩
  · exact ⟨nm.c.fact 94, nm.c.fact 125⟩
  · exact ⟨nm.c.fact 96, nm.c.fact 126⟩
  · exact ⟨nm.c.fact 98, nm.c.fact 127⟩
theorem fl_slots (nm : Nm fa fns ex K mg) (hX : X.K = K) : FldOk (Cc P w K) X "slots" := by
  subst hX
  refine fld_of (cls := clsN) rfl fun c hc => ?_
  simp only [clsN, List.mem_cons, List.not_mem_nil, or_false] at hc
  rcases hc with rfl | rfl | rfl | rfl
  · exact ⟨nm.c.fact 92, nm.c.fact 128⟩
  · exact ⟨nm.c.fact 94, nm.c.fact 129⟩
  · exact ⟨nm.c.fact 96, nm.c.fact 130⟩
  · exact ⟨nm.c.fact 98, nm.c.fact 131⟩
theorem fl_rules (nm : Nm fa fns ex K mg) (hX : X.K = K) : FldOk (Cc P w K) X "rules" := by
  subst hX
  refine fld_of (cls := clsN) rfl fun c hc => ?_
  simp only [clsN, List.mem_cons, List.not_mem_nil, or_false] at hc
  rcases hc with rfl | rfl | rfl | rfl
  · exact ⟨nm.c.fact 92, nm.c.fact 132⟩
  · exact ⟨nm.c.fact 94, nm.c.fact 133⟩
  · exact ⟨nm.c.fact 96, nm.c.fact 134⟩
  · exact ⟨nm.c.fact 98, nm.c.fact 135⟩
theorem fl_word (nm : Nm fa fns ex K mg) (hX : X.K = K) : FldOk (Cc P w K) X "word" := by
  subst hX
  refine fld_of (cls := clsN) rfl fun c hc => ?_
  simp only [clsN, List.mem_cons, List.not_mem_nil, or_false] at hc
  rcases hc with rfl | rfl | rfl | rfl
  · exact ⟨nm.c.fact 92, nm.c.fact 136⟩
  · exact ⟨nm.c.fact 94, nm.c.fact 137⟩
  · exact ⟨nm.c.fact 96, nm.c.fact 138⟩
  · exact ⟨nm.c.fact 98, nm.c.fact 139⟩
theorem fl_state (nm : Nm fa fns ex K mg) (hX : X.K = K) : FldOk (Cc P w K) X "state" := by
  subst hX
  refine fld_of (cls := clsN) rfl fun c hc => ?_
  simp only [clsN, List.mem_cons, List.not_mem_nil, or_false] at hc
  rcases hc with rfl | rfl | rfl | rfl
  · exact ⟨nm.c.fact 92, nm.c.fact 140⟩
  · exact ⟨nm.c.fact 94, nm.c.fact 141⟩
  · exact ⟨nm.c.fact 96, nm.c.fact 142⟩
  · exact ⟨nm.c.fact 98, nm.c.fact 143⟩
theorem fl_later (nm : Nm fa fns ex K mg) (hX : X.K = K) : FldOk (Cc P w K) X "later" := by
  subst hX
  refine fld_of (cls := clsN) rfl fun c hc => ?_
  simp only [clsN, List.mem_cons, List.not_mem_nil, or_false] at hc
  rcases hc with rfl | rfl | rfl | rfl
  · exact ⟨nm.c.fact 92, nm.c.fact 144⟩
  · exact ⟨nm.c.fact 94, nm.c.fact 145⟩
  · exact ⟨nm.c.fact 96, nm.c.fact 146⟩
  · exact ⟨nm.c.fact 98, nm.c.fact 147⟩
theorem fl_spots (nm : Nm fa fns ex K mg) (hX : X.K = K) : FldOk (Cc P w K) X "spots" := by
  subst hX
  refine fld_of (cls := clsN) rfl fun c hc => ?_
  simp only [clsN, List.mem_cons, List.not_mem_nil, or_false] at hc
  rcases hc with rfl | rfl | rfl | rfl
  · exact ⟨nm.c.fact 92, nm.c.fact 148⟩
  · exact ⟨nm.c.fact 94, nm.c.fact 149⟩
  · exact ⟨nm.c.fact 96, nm.c.fact 150⟩
  · exact ⟨nm.c.fact 98, nm.c.fact 151⟩
theorem fl_seats (nm : Nm fa fns ex K mg) (hX : X.K = K) : FldOk (Cc P w K) X "seats" := by
  subst hX
  refine fld_of (cls := clsN) rfl fun c hc => ?_
  simp only [clsN, List.mem_cons, List.not_mem_nil, or_false] at hc
  rcases hc with rfl | rfl | rfl | rfl
  · exact ⟨nm.c.fact 92, nm.c.fact 152⟩
  · exact ⟨nm.c.fact 94, nm.c.fact 153⟩
  · exact ⟨nm.c.fact 96, nm.c.fact 154⟩
  · exact ⟨nm.c.fact 98, nm.c.fact 155⟩
theorem fl_words (nm : Nm fa fns ex K mg) (hX : X.K = K) : FldOk (Cc P w K) X "words" := by
  subst hX
  refine fld_of (cls := clsN) rfl fun c hc => ?_
  simp only [clsN, List.mem_cons, List.not_mem_nil, or_false] at hc
  rcases hc with rfl | rfl | rfl | rfl
  · exact ⟨nm.c.fact 92, nm.c.fact 156⟩
  · exact ⟨nm.c.fact 94, nm.c.fact 157⟩
  · exact ⟨nm.c.fact 96, nm.c.fact 158⟩
  · exact ⟨nm.c.fact 98, nm.c.fact 159⟩
theorem fl_name (nm : Nm fa fns ex K mg) (hX : X.K = K) : FldOk (Cc P w K) X "name" := by
  subst hX
  refine fld_of (cls := clsN) rfl fun c hc => ?_
  simp only [clsN, List.mem_cons, List.not_mem_nil, or_false] at hc
  rcases hc with rfl | rfl | rfl | rfl
  · exact ⟨nm.c.fact 92, nm.c.fact 160⟩
  · exact ⟨nm.c.fact 94, nm.c.fact 161⟩
  · exact ⟨nm.c.fact 96, nm.c.fact 162⟩
  · exact ⟨nm.c.fact 98, nm.c.fact 163⟩
theorem fl_is_friend (nm : Nm fa fns ex K mg) (hX : X.K = K) : FldOk (Cc P w K) X "is_friend" := by
  subst hX
  refine fld_of (cls := clsN) rfl fun c hc => ?_
  simp only [clsN, List.mem_cons, List.not_mem_nil, or_false] at hc
  rcases hc with rfl | rfl | rfl | rfl
  · exact ⟨nm.c.fact 92, nm.c.fact 164⟩
  · exact ⟨nm.c.fact 94, nm.c.fact 165⟩
  · exact ⟨nm.c.fact 96, nm.c.fact 166⟩
  · exact ⟨nm.c.fact 98, nm.c.fact 167⟩
theorem fl_owners (nm : Nm fa fns ex K mg) (hX : X.K = K) : FldOk (Cc P w K) X "owners" := by
  subst hX
  refine fld_of (cls := clsN) rfl fun c hc => ?_
  simp only [clsN, List.mem_cons, List.not_mem_nil, or_false] at hc
  rcases hc with rfl | rfl | rfl | rfl
  · exact ⟨nm.c.fact 92, nm.c.fact 168⟩
  · exact ⟨nm.c.fact 94, nm.c.fact 169⟩
  · exact ⟨nm.c.fact 96, nm.c.fact 170⟩
  · exact ⟨nm.c.fact 98, nm.c.fact 171⟩
theorem fl_marks (nm : Nm fa fns ex K mg) (hX : X.K = K) : FldOk (Cc P w K) X "marks" := by
  subst hX
  refine fld_of (cls := clsN) rfl fun c hc => ?_
  simp only [clsN, List.mem_cons, List.not_mem_nil, or_false] at hc
  rcases hc with rfl | rfl | rfl | rfl
  · exact ⟨nm.c.fact 92, nm.c.fact 172⟩
  · exact ⟨nm.c.fact 94, nm.c.fact 173⟩
  · exact ⟨nm.c.fact 96, nm.c.fact 174⟩
  · exact ⟨nm.c.fact 98, nm.c.fact 175⟩
theorem mt_has_value (nm : Nm fa fns ex K mg) : ∀ cl A g, (Cc P w K).CA cl = some A → prg.meth cl 39285181495248774281858523428554036346873228694650982 = g + 1 → ∃ f, Meth K A "has_value" f ∧ (Cc P w K).G g = some f := fun cl A g hA hm => by
  obtain ⟨x, hx, rfl⟩ := ctCA hA
  match cl, hx with
  | 0, hx => cases (show 0 = g + 1 from hm)
  | 1, hx => cases (show 0 = g + 1 from hm)
  | 2, hx => cases (show 0 = g + 1 from hm)
  | 3, hx =>
    cases hx
    cases (show 59 = g + 1 from hm)
    exact ⟨_, He.meth_ok (nm.c.fact 176), rfl⟩
  | c + 4, hx => cases hx
end
end
end VI.K
namespace VI.K
open PySem PySem.Spec PyProof.Rows L2 VI
noncomputable section
section
variable {k W : Nat} {call : Nat → U → VH → VR} {P : Program} {w : World} {K : PySem.W.Frag} {mg : Str → Option Value} {base : Heap}
/-- is_integer -/
theorem body0 (nm : Nm fa fns ex K mg) {f : Addr} {cdv : Value} {A : Around} {outer : List Env} {s : Shared} {H : Hp} {E : XK} (e : Ev (Cc P w K) Tdf (cxOf CXn P w K mg base N0 "is_integer" s0 f cdv A outer s H E).nox prg call k) : SXs (Cc P w K) (cxOf CXn P w K mg base N0 "is_integer" s0 f cdv A outer s H E).nox prg call W b0 v0 :=
  (q_cons (q_ret (r_and (r_isi (tab1 nm) (.ty _) (vv 0) (pe_bltn (v := .ty "int") (by rfl) (nm.free 2) bo_int rfl) (by rfl) (nm.free 1)) (r_one (r_not (r_isi (tab0 nm) (.ty _) (vv 0) (pe_bltn (v := .ty "bool") (by rfl) (nm.free 0) bo_bool rfl) (by rfl) (nm.free 1)))))) q_nil)
/-- is_listed -/
theorem body1 (nm : Nm fa fns ex K mg) {f : Addr} {cdv : Value} {A : Around} {outer : List Env} {s : Shared} {H : Hp} {E : XK} (e : Ev (Cc P w K) Tdf (cxOf CXn P w K mg base N1 "is_listed" s1 f cdv A outer s H E).nox prg call k) : SXs (Cc P w K) (cxOf CXn P w K mg base N1 "is_listed" s1 f cdv A outer s H E).nox prg call W b1 v1 :=
  (q_cons (q_ret (r_isiT (tab2 nm) (.cons (.ty _) (.cons (.ty _) .nil)) (vv 0) (pa_cls (pe_bltn (v := .ty "list") (by rfl) (nm.free 3) bo_list rfl) (pa_cls (pe_bltn (v := .ty "tuple") (by rfl) (nm.free 4) bo_tuple rfl) pa_cls0)) (by decide) (by rfl) (nm.free 1))) q_nil)
/-- is_row -/
theorem body2 (nm : Nm fa fns ex K mg) {f : Addr} {cdv : Value} {A : Around} {outer : List Env} {s : Shared} {H : Hp} {E : XK} (e : Ev (Cc P w K) Tdf (cxOf CXn P w K mg base N2 "is_row" s2 f cdv A outer s H E).nox prg call k) : SXs (Cc P w K) (cxOf CXn P w K mg base N2 "is_row" s2 f cdv A outer s H E).nox prg call W b2 v2 :=
  (q_cons (q_ret (r_and (x_call e (n := 1) (by rfl) (by rfl) (nm.glo 6) (l_cons (vv 0) l_nil)) (r_one (r_eq e.xc (r_bc (n := 0) (b_len e.xc) (by rfl) (nm.free 5) bo_len (l_cons (vv 0) l_nil)) (vv 1))))) q_nil)
/-- is_name -/
theorem body3 (nm : Nm fa fns ex K mg) {f : Addr} {cdv : Value} {A : Around} {outer : List Env} {s : Shared} {H : Hp} {E : XK} (e : Ev (Cc P w K) Tdf (cxOf CXn P w K mg base N3 "is_name" s3 f cdv A outer s H E).nox prg call k) : SXs (Cc P w K) (cxOf CXn P w K mg base N3 "is_name" s3 f cdv A outer s H E).nox prg call W b3 v3 :=
  (q_cons (q_if (b_w (w_or (b_not (b_val (r_isi (tab3 nm) (.ty _) (vv 0) (pe_bltn (v := .ty "str") (by rfl) (nm.free 10) bo_str rfl) (by rfl) (nm.free 1)))) (w_or1 (b_not (b_chain u_le u_le r_int (r_bc (n := 0) (b_len e.xc) (by rfl) (nm.free 5) bo_len (l_cons (vv 0) l_nil)) (x_gint (by rfl) (nm.int 9))))))) (q_cons (q_ret r_bl) q_nil) q_nil) (q_cons (q_ret (r_bc (n := 1) (b_all e.calm) (by rfl) (nm.free 8) bo_all (l_cons (r_lc e.calm e.nd (own := [("sign", 1)]) (i_val (y0 := false) (vv 0)) (blkOk_by (by kernel_rfl)) (by decide) (fun s0 H0 c0 l0 f0 => (g_var (e.blk s0 H0 _ _ f0).nd (by rfl) (by first | exact Or.inl rfl | exact Or.inr rfl))) (fun s0 H0 c0 l0 f0 => st_nil) (fun s0 H0 c0 l0 f0 => (r_cmp (u_in (e.blk s0 H0 _ _ f0).xc) (by with_unfolding_all rfl) (vv 1) (x_gstr (by rfl) (nm.str 7) z0)))) l_nil))) q_nil))
/-- are_so_many -/
theorem body4 (nm : Nm fa fns ex K mg) {f : Addr} {cdv : Value} {A : Around} {outer : List Env} {s : Shared} {H : Hp} {E : XK} (e : Ev (Cc P w K) Tdf (cxOf CXn P w K mg base N4 "are_so_many" s4 f cdv A outer s H E).nox prg call k) : SXs (Cc P w K) (cxOf CXn P w K mg base N4 "are_so_many" s4 f cdv A outer s H E).nox prg call W b4 v4 :=
  (q_cons (q_ret (r_and (x_call e (n := 1) (by rfl) (by rfl) (nm.glo 6) (l_cons (vv 0) l_nil)) (r_one (r_chain u_le u_le (vv 1) (r_bc (n := 0) (b_len e.xc) (by rfl) (nm.free 5) bo_len (l_cons (vv 0) l_nil)) (vv 2))))) q_nil)
/-- fixed -/
theorem body5 (nm : Nm fa fns ex K mg) {f : Addr} {cdv : Value} {A : Around} {outer : List Env} {s : Shared} {H : Hp} {E : XK} (e : Ev (Cc P w K) Tdf (cxOf CXn P w K mg base N5 "fixed" s5 f cdv A outer s H E).nox prg call k) : SXs (Cc P w K) (cxOf CXn P w K mg base N5 "fixed" s5 f cdv A outer s H E).nox prg call W b5 v5 :=
  (q_cons (q_if (b_val (r_isiT (tab2 nm) (.cons (.ty _) (.cons (.ty _) .nil)) (vv 0) (pa_cls (pe_bltn (v := .ty "list") (by rfl) (nm.free 3) bo_list rfl) (pa_cls (pe_bltn (v := .ty "tuple") (by rfl) (nm.free 4) bo_tuple rfl) pa_cls0)) (by decide) (by rfl) (nm.free 1))) (q_cons (q_ret (r_bt (n := 5) (b_tuple) (by rfl) (nm.free 4) bo_tuple (l_cons (r_lc e.calm e.nd (own := [("part", 1)]) (i_val (y0 := false) (vv 0)) (blkOk_by (by kernel_rfl)) (by decide) (fun s0 H0 c0 l0 f0 => (g_var (e.blk s0 H0 _ _ f0).nd (by rfl) (by first | exact Or.inl rfl | exact Or.inr rfl))) (fun s0 H0 c0 l0 f0 => st_nil) (fun s0 H0 c0 l0 f0 => (x_call (e.blk s0 H0 _ _ f0) (n := 5) (by rfl) (by rfl) (nm.glo 11) (l_cons (vv 1) l_nil)))) l_nil))) q_nil) q_nil) (q_cons (q_ret (vv 0)) q_nil))
/-- is_mark -/
theorem body6 (nm : Nm fa fns ex K mg) {f : Addr} {cdv : Value} {A : Around} {outer : List Env} {s : Shared} {H : Hp} {E : XK} (e : Ev (Cc P w K) Tdf (cxOf CXn P w K mg base N6 "is_mark" s6 f cdv A outer s H E).nox prg call k) : SXs (Cc P w K) (cxOf CXn P w K mg base N6 "is_mark" s6 f cdv A outer s H E).nox prg call W b6 v6 :=
  (q_cons (q_ret (r_and (x_call e (n := 2) (by rfl) (by rfl) (nm.glo 14) (l_cons (vv 0) (l_cons r_int l_nil))) (r_and (r_isi (tab3 nm) (.ty _) (r_idx e.xc (vv 0) r_int) (pe_bltn (v := .ty "str") (by rfl) (nm.free 10) bo_str rfl) (by rfl) (nm.free 1)) (r_and (r_eq e.xc (r_idx e.xc (vv 0) r_int) (x_gstr (by rfl) (nm.str 13) z1)) (r_one (x_call e (n := 3) (by rfl) (by rfl) (nm.glo 12) (l_cons (r_idx e.xc (vv 0) r_int) l_nil))))))) q_nil)
/-- is_right -/
theorem body7 (nm : Nm fa fns ex K mg) {f : Addr} {cdv : Value} {A : Around} {outer : List Env} {s : Shared} {H : Hp} {E : XK} (e : Ev (Cc P w K) Tdf (cxOf CXn P w K mg base N7 "is_right" s7 f cdv A outer s H E).nox prg call k) : SXs (Cc P w K) (cxOf CXn P w K mg base N7 "is_right" s7 f cdv A outer s H E).nox prg call W b7 v7 :=
  (q_cons (q_if (b_w (w_or (b_not (b_val (x_call e (n := 2) (by rfl) (by rfl) (nm.glo 14) (l_cons (vv 0) (l_cons r_int l_nil))))) (w_or (b_not (b_val (r_isi (tab3 nm) (.ty _) (r_idx e.xc (vv 0) r_int) (pe_bltn (v := .ty "str") (by rfl) (nm.free 10) bo_str rfl) (by rfl) (nm.free 1)))) (w_or1 (b_ne e.xc (r_idx e.xc (vv 0) r_int) (x_gstr (by rfl) (nm.str 15) z2)))))) (q_cons (q_ret r_bl) q_nil) q_nil) (q_cons (q_ret (r_and (x_call e (n := 3) (by rfl) (by rfl) (nm.glo 12) (l_cons (r_idx e.xc (vv 0) r_int) l_nil)) (r_one (x_call e (n := 3) (by rfl) (by rfl) (nm.glo 12) (l_cons (r_idx e.xc (vv 0) r_int) l_nil))))) q_nil))
/-- is_value -/
theorem body8 (nm : Nm fa fns ex K mg) {f : Addr} {cdv : Value} {A : Around} {outer : List Env} {s : Shared} {H : Hp} {E : XK} (e : Ev (Cc P w K) Tdf (cxOf CXn P w K mg base N8 "is_value" s8 f cdv A outer s H E).nox prg call k) : SXs (Cc P w K) (cxOf CXn P w K mg base N8 "is_value" s8 f cdv A outer s H E).nox prg call W b8 v8 :=
  (q_cons (q_ret (r_or (r_isN (vv 0) r_non) (r_or (x_call e (n := 6) (by rfl) (by rfl) (nm.glo 17) (l_cons (vv 0) l_nil)) (r_one (x_call e (n := 7) (by rfl) (by rfl) (nm.glo 16) (l_cons (vv 0) l_nil)))))) q_nil)
/-- order_of -/
theorem body9 (nm : Nm fa fns ex K mg) {f : Addr} {cdv : Value} {A : Around} {outer : List Env} {s : Shared} {H : Hp} {E : XK} (e : Ev (Cc P w K) Tdf (cxOf CXn P w K mg base N9 "order_of" s9 f cdv A outer s H E).nox prg call k) : SXs (Cc P w K) (cxOf CXn P w K mg base N9 "order_of" s9 f cdv A outer s H E).nox prg call W b9 v9 :=
  (q_cons (q_ret (r_ife (b_isN (vv 0) r_non) (r_tup l_nil) (vv 0))) q_nil)
/-- in_order -/
theorem body10 (nm : Nm fa fns ex K mg) {f : Addr} {cdv : Value} {A : Around} {outer : List Env} {s : Shared} {H : Hp} {E : XK} (e : Ev (Cc P w K) Tdf (cxOf CXn P w K mg base N10 "in_order" s10 f cdv A outer s H E).nox prg call k) : SXs (Cc P w K) (cxOf CXn P w K mg base N10 "in_order" s10 f cdv A outer s H E).nox prg call W b10 v10 :=
  (q_cons (q_ret (r_bt (n := 5) (b_tuple) (by rfl) (nm.free 4) bo_tuple (l_cons (r_sortK (g := 9) e.xc (fun B h => e.call2 h) (by rfl) (nm.free 18) (by rfl) (nm.glo 19) (by rfl) (ha := (r_dc e.xc (own := [("value", 1)]) (i_val (y0 := false) (vv 0)) (blkOk_by (by kernel_rfl)) (by decide) (fun s0 H0 c0 l0 f0 => (g_var (e.blk s0 H0 _ _ f0).nd (by rfl) (by first | exact Or.inl rfl | exact Or.inr rfl))) (fun s0 H0 c0 l0 f0 => st_nil) (fun s0 H0 c0 l0 f0 => (vv 1)) (fun s0 H0 c0 l0 f0 => r_bl)))) l_nil))) q_nil)
/-- message_order -/
theorem body11 (nm : Nm fa fns ex K mg) {f : Addr} {cdv : Value} {A : Around} {outer : List Env} {s : Shared} {H : Hp} {E : XK} (e : Ev (Cc P w K) Tdf (cxOf CXn P w K mg base N11 "message_order" s11 f cdv A outer s H E).nox prg call k) : SXs (Cc P w K) (cxOf CXn P w K mg base N11 "message_order" s11 f cdv A outer s H E).nox prg call W b11 v11 :=
  (q_cons (q_ret (r_tup (l_cons (r_idx e.xc (vv 0) r_int) (l_cons (x_call e (n := 9) (by rfl) (by rfl) (nm.glo 19) (l_cons (r_idx e.xc (vv 0) r_int) l_nil)) l_nil)))) q_nil)
end
end
end VI.K
namespace VI.K
open PySem PySem.Spec PyProof.Rows L2 VI
noncomputable section
section
variable {k W : Nat} {call : Nat → U → VH → VR} {P : Program} {w : World} {K : PySem.W.Frag} {mg : Str → Option Value} {base : Heap}
/-- are_ascending -/
theorem body12 (nm : Nm fa fns ex K mg) {f : Addr} {cdv : Value} {A : Around} {outer : List Env} {s : Shared} {H : Hp} {E : XK} (e : Ev (Cc P w K) Tdf (cxOf CXn P w K mg base N12 "are_ascending" s12 f cdv A outer s H E).nox prg call k) : SXs (Cc P w K) (cxOf CXn P w K mg base N12 "are_ascending" s12 f cdv A outer s H E).nox prg call W b12 v12 :=
  (q_cons (q_ret (r_bc (n := 1) (b_all e.calm) (by rfl) (nm.free 8) bo_all (l_cons (r_lc e.calm e.nd (own := [("one", 2), ("other", 3)]) (i_zip (by rfl) (nm.free 20) (vv 0) (r_slc (vv 0) (o_some r_int) o_none)) (blkOk_by (by kernel_rfl)) (by decide) (fun s0 H0 c0 l0 f0 => (g_tup (e.blk s0 H0 _ _ f0).calm (g_cons (g_var (e.blk s0 H0 _ _ f0).nd (by rfl) (by first | exact Or.inl rfl | exact Or.inr rfl)) (g_cons (g_var (e.blk s0 H0 _ _ f0).nd (by rfl) (by first | exact Or.inl rfl | exact Or.inr rfl)) g_nil)) (asg_lenS (asg_lenS asg_len0)))) (fun s0 H0 c0 l0 f0 => st_nil) (fun s0 H0 c0 l0 f0 => (r_cmp (u_lt' (e.blk s0 H0 _ _ f0).xc) (nomark _) (x_callv (e.blk s0 H0 _ _ f0) (i := 1) (by rfl) (by first | exact Or.inl rfl | exact Or.inr (Or.inl rfl) | exact Or.inr (Or.inr rfl)) (l_cons (vv 2) l_nil)) (x_callv (e.blk s0 H0 _ _ f0) (i := 1) (by rfl) (by first | exact Or.inl rfl | exact Or.inr (Or.inl rfl) | exact Or.inr (Or.inr rfl)) (l_cons (vv 3) l_nil))))) l_nil))) q_nil)
/-- is_word -/
theorem body13 (nm : Nm fa fns ex K mg) {f : Addr} {cdv : Value} {A : Around} {outer : List Env} {s : Shared} {H : Hp} {E : XK} (e : Ev (Cc P w K) Tdf (cxOf CXn P w K mg base N13 "is_word" s13 f cdv A outer s H E).nox prg call k) : SXs (Cc P w K) (cxOf CXn P w K mg base N13 "is_word" s13 f cdv A outer s H E).nox prg call W b13 v13 :=
  (q_cons (q_ret (r_and (r_isi (tab3 nm) (.ty _) (vv 0) (pe_bltn (v := .ty "str") (by rfl) (nm.free 10) bo_str rfl) (by rfl) (nm.free 1)) (r_one (r_eq e.xc (vv 0) (vv 1))))) q_nil)
/-- is_term -/
theorem body14 (nm : Nm fa fns ex K mg) {f : Addr} {cdv : Value} {A : Around} {outer : List Env} {s : Shared} {H : Hp} {E : XK} (e : Ev (Cc P w K) Tdf (cxOf CXn P w K mg base N14 "is_term" s14 f cdv A outer s H E).nox prg call k) : SXs (Cc P w K) (cxOf CXn P w K mg base N14 "is_term" s14 f cdv A outer s H E).nox prg call W b14 v14 :=
  (q_cons (q_if (b_val (x_call e (n := 2) (by rfl) (by rfl) (nm.glo 14) (l_cons (vv 0) (l_cons r_int l_nil)))) (q_cons (q_ret (x_call e (n := 13) (by rfl) (by rfl) (nm.glo 23) (l_cons (r_idx e.xc (vv 0) r_int) (l_cons (x_gstr (by rfl) (nm.str 24) z4) l_nil)))) q_nil) q_nil) (q_cons (q_if (b_w (w_and (b_val (x_call e (n := 2) (by rfl) (by rfl) (nm.glo 14) (l_cons (vv 0) (l_cons r_int l_nil)))) (w_and1 (b_val (x_call e (n := 13) (by rfl) (by rfl) (nm.glo 23) (l_cons (r_idx e.xc (vv 0) r_int) (l_cons (x_gstr (by rfl) (nm.str 22) z3) l_nil))))))) (q_cons (q_ret (x_call e (n := 3) (by rfl) (by rfl) (nm.glo 12) (l_cons (r_idx e.xc (vv 0) r_int) l_nil))) q_nil) q_nil) (q_cons (q_ret (x_call e (n := 8) (by rfl) (by rfl) (nm.glo 21) (l_cons (vv 0) l_nil))) q_nil)))
/-- is_when -/
theorem body15 (nm : Nm fa fns ex K mg) {f : Addr} {cdv : Value} {A : Around} {outer : List Env} {s : Shared} {H : Hp} {E : XK} (e : Ev (Cc P w K) Tdf (cxOf CXn P w K mg base N15 "is_when" s15 f cdv A outer s H E).nox prg call k) : SXs (Cc P w K) (cxOf CXn P w K mg base N15 "is_when" s15 f cdv A outer s H E).nox prg call W b15 v15 :=
  (q_cons (q_if (b_w (w_or (b_not (b_val (x_call e (n := 1) (by rfl) (by rfl) (nm.glo 6) (l_cons (vv 0) l_nil)))) (w_or1 (b_cmp (u_lt' e.xc) (nomark _) (r_bc (n := 0) (b_len e.xc) (by rfl) (nm.free 5) bo_len (l_cons (vv 0) l_nil)) r_int)))) (q_cons (q_ret r_bl) q_nil) q_nil) (q_cons (q_if (b_val (x_call e (n := 13) (by rfl) (by rfl) (nm.glo 23) (l_cons (r_idx e.xc (vv 0) r_int) (l_cons (x_gstr (by rfl) (nm.str 27) z7) l_nil)))) (q_cons (q_ret (r_and (r_eq e.xc (r_bc (n := 0) (b_len e.xc) (by rfl) (nm.free 5) bo_len (l_cons (vv 0) l_nil)) r_int) (r_one (x_call e (n := 3) (by rfl) (by rfl) (nm.glo 12) (l_cons (r_idx e.xc (vv 0) r_int) l_nil))))) q_nil) q_nil) (q_cons (q_if (b_val (x_call e (n := 13) (by rfl) (by rfl) (nm.glo 23) (l_cons (r_idx e.xc (vv 0) r_int) (l_cons (x_gstr (by rfl) (nm.str 26) z6) l_nil)))) (q_cons (q_ret (r_and (r_eq e.xc (r_bc (n := 0) (b_len e.xc) (by rfl) (nm.free 5) bo_len (l_cons (vv 0) l_nil)) r_int) (r_one (x_call e (n := 8) (by rfl) (by rfl) (nm.glo 21) (l_cons (r_idx e.xc (vv 0) r_int) l_nil))))) q_nil) q_nil) (q_cons (q_ret (r_and (x_call e (n := 13) (by rfl) (by rfl) (nm.glo 23) (l_cons (r_idx e.xc (vv 0) r_int) (l_cons (x_gstr (by rfl) (nm.str 25) z5) l_nil))) (r_and (r_eq e.xc (r_bc (n := 0) (b_len e.xc) (by rfl) (nm.free 5) bo_len (l_cons (vv 0) l_nil)) r_int) (r_and (x_call e (n := 3) (by rfl) (by rfl) (nm.glo 12) (l_cons (r_idx e.xc (vv 0) r_int) l_nil)) (r_one (x_call e (n := 8) (by rfl) (by rfl) (nm.glo 21) (l_cons (r_idx e.xc (vv 0) r_int) l_nil))))))) q_nil))))
/-- is_act -/
theorem body16 (nm : Nm fa fns ex K mg) {f : Addr} {cdv : Value} {A : Around} {outer : List Env} {s : Shared} {H : Hp} {E : XK} (e : Ev (Cc P w K) Tdf (cxOf CXn P w K mg base N16 "is_act" s16 f cdv A outer s H E).nox prg call k) : SXs (Cc P w K) (cxOf CXn P w K mg base N16 "is_act" s16 f cdv A outer s H E).nox prg call W b16 v16 :=
  (q_cons (q_if (b_not (b_val (x_call e (n := 2) (by rfl) (by rfl) (nm.glo 14) (l_cons (vv 0) (l_cons r_int l_nil))))) (q_cons (q_ret r_bl) q_nil) q_nil) (q_cons (q_if (b_val (x_call e (n := 13) (by rfl) (by rfl) (nm.glo 23) (l_cons (r_idx e.xc (vv 0) r_int) (l_cons (x_gstr (by rfl) (nm.str 30) z9) l_nil)))) (q_cons (q_ret (r_and (x_call e (n := 3) (by rfl) (by rfl) (nm.glo 12) (l_cons (r_idx e.xc (vv 0) r_int) l_nil)) (r_one (x_call e (n := 14) (by rfl) (by rfl) (nm.glo 28) (l_cons (r_idx e.xc (vv 0) r_int) l_nil))))) q_nil) q_nil) (q_cons (q_ret (r_and (x_call e (n := 13) (by rfl) (by rfl) (nm.glo 23) (l_cons (r_idx e.xc (vv 0) r_int) (l_cons (x_gstr (by rfl) (nm.str 29) z8) l_nil))) (r_and (x_call e (n := 14) (by rfl) (by rfl) (nm.glo 28) (l_cons (r_idx e.xc (vv 0) r_int) l_nil)) (r_and (r_notN (r_idx e.xc (vv 0) r_int) r_non) (r_one (x_call e (n := 14) (by rfl) (by rfl) (nm.glo 28) (l_cons (r_idx e.xc (vv 0) r_int) l_nil))))))) q_nil)))
/-- are_names -/
theorem body17 (nm : Nm fa fns ex K mg) {f : Addr} {cdv : Value} {A : Around} {outer : List Env} {s : Shared} {H : Hp} {E : XK} (e : Ev (Cc P w K) Tdf (cxOf CXn P w K mg base N17 "are_names" s17 f cdv A outer s H E).nox prg call k) : SXs (Cc P w K) (cxOf CXn P w K mg base N17 "are_names" s17 f cdv A outer s H E).nox prg call W b17 v17 :=
  (q_cons (q_if (b_w (w_or (b_not (b_val (x_call e (n := 4) (by rfl) (by rfl) (nm.glo 31) (l_cons (vv 0) (l_cons (vv 1) (l_cons (vv 2) l_nil)))))) (w_or1 (b_not (b_val (r_bc (n := 1) (b_all e.calm) (by rfl) (nm.free 8) bo_all (l_cons (r_lc e.calm e.nd (own := [("one", 3)]) (i_val (y0 := false) (vv 0)) (blkOk_by (by kernel_rfl)) (by decide) (fun s0 H0 c0 l0 f0 => (g_var (e.blk s0 H0 _ _ f0).nd (by rfl) (by first | exact Or.inl rfl | exact Or.inr rfl))) (fun s0 H0 c0 l0 f0 => st_nil) (fun s0 H0 c0 l0 f0 => (x_call (e.blk s0 H0 _ _ f0) (n := 3) (by rfl) (by rfl) (nm.glo 12) (l_cons (vv 3) l_nil)))) l_nil))))))) (q_cons (q_ret r_bl) q_nil) q_nil) (q_cons (q_ret (r_eq e.xc (r_bc (n := 0) (b_len e.xc) (by rfl) (nm.free 5) bo_len (l_cons (r_dc e.xc (own := [("one", 3)]) (i_val (y0 := false) (vv 0)) (blkOk_by (by kernel_rfl)) (by decide) (fun s0 H0 c0 l0 f0 => (g_var (e.blk s0 H0 _ _ f0).nd (by rfl) (by first | exact Or.inl rfl | exact Or.inr rfl))) (fun s0 H0 c0 l0 f0 => st_nil) (fun s0 H0 c0 l0 f0 => (vv 3)) (fun s0 H0 c0 l0 f0 => r_bl)) l_nil)) (r_bc (n := 0) (b_len e.xc) (by rfl) (nm.free 5) bo_len (l_cons (vv 0) l_nil)))) q_nil))
/-- slots_in -/
theorem body18 (nm : Nm fa fns ex K mg) {f : Addr} {cdv : Value} {A : Around} {outer : List Env} {s : Shared} {H : Hp} {E : XK} (e : Ev (Cc P w K) Tdf (cxOf CXn P w K mg base N18 "slots_in" s18 f cdv A outer s H E).nox prg call k) : SXs (Cc P w K) (cxOf CXn P w K mg base N18 "slots_in" s18 f cdv A outer s H E).nox prg call W b18 v18 :=
  (q_cons (q_setLc2 e.calm e.nd (by rfl) rfl (own := [("one", 2), ("term", 3)]) (vs1 := [3]) (i_val (y0 := false) (r_fld z11 (fl_acts nm rfl) (vv 0))) (blkOk_by (by kernel_rfl)) (by decide) (by decide) (by decide) (fun s0 H0 c0 l0 f0 => (g_var (e.blk s0 H0 _ _ f0).nd (by rfl) (by first | exact Or.inl rfl | exact Or.inr rfl))) (fun s0 H0 c0 l0 f0 => st_nil) (fun s0 H0 c0 l0 f0 => (i_val (y0 := false) (r_slc (vv 2) (o_some r_int) o_none))) (fun s0 H0 c0 l0 f0 => (g_var (e.blk s0 H0 _ _ f0).nd (by rfl) (by first | exact Or.inl rfl | exact Or.inr rfl))) (fun s0 H0 c0 l0 f0 => (st_one (b_val (r_isi (tab4 nm) (.ty _) (vv 3) (pe_bltn (v := .ty "tuple") (by rfl) (nm.free 4) bo_tuple rfl) (by rfl) (nm.free 1))))) (fun s0 H0 c0 l0 f0 => (vv 3))) (q_cons (q_setLcH e.calm e.nd (by rfl) rfl (own := [("term", 3)]) (i_val (y0 := false) (vv 1)) (blkOk_by (by kernel_rfl)) (by decide) (fun s0 H0 c0 l0 f0 => (g_var (e.blk s0 H0 _ _ f0).nd (by rfl) (by first | exact Or.inl rfl | exact Or.inr rfl))) (fun s0 H0 c0 l0 f0 => (st_one (b_w (w_and (b_eq (e.blk s0 H0 _ _ f0).xc (r_bc (n := 0) (b_len (e.blk s0 H0 _ _ f0).xc) (by rfl) (nm.free 5) bo_len (l_cons (vv 3) l_nil)) r_int) (w_and1 (b_eq (e.blk s0 H0 _ _ f0).xc (r_idx (e.blk s0 H0 _ _ f0).xc (vv 3) r_int) (x_gstr (by rfl) (nm.str 22) z3))))))) (fun s0 H0 c0 l0 f0 => (r_idx (e.blk s0 H0 _ _ f0).xc (vv 3) r_int))) (q_cons (q_ex (r_bm (m := 1) bm_extend (vv 4) (l_cons (r_lc e.calm e.nd (own := [("one", 2)]) (i_val (y0 := false) (r_fld z11 (fl_acts nm rfl) (vv 0))) (blkOk_by (by kernel_rfl)) (by decide) (fun s0 H0 c0 l0 f0 => (g_var (e.blk s0 H0 _ _ f0).nd (by rfl) (by first | exact Or.inl rfl | exact Or.inr rfl))) (fun s0 H0 c0 l0 f0 => (st_one (b_eq (e.blk s0 H0 _ _ f0).xc (r_idx (e.blk s0 H0 _ _ f0).xc (vv 2) r_int) (x_gstr (by rfl) (nm.str 30) z9)))) (fun s0 H0 c0 l0 f0 => (r_idx (e.blk s0 H0 _ _ f0).xc (vv 2) r_int))) l_nil))) (q_cons (q_ret (r_vls (l_lim (l_star (vv 4) (l_star (r_lc e.calm e.nd (own := [("one", 2)]) (i_val (y0 := false) (r_fld z10 (fl_whens nm rfl) (vv 0))) (blkOk_by (by kernel_rfl)) (by decide) (fun s0 H0 c0 l0 f0 => (g_var (e.blk s0 H0 _ _ f0).nd (by rfl) (by first | exact Or.inl rfl | exact Or.inr rfl))) (fun s0 H0 c0 l0 f0 => (st_one (b_cmp (u_in (e.blk s0 H0 _ _ f0).xc) (by with_unfolding_all rfl) (r_idx (e.blk s0 H0 _ _ f0).xc (vv 2) r_int) (r_tup (l_cons (x_gstr (by rfl) (nm.str 27) z7) (l_cons (x_gstr (by rfl) (nm.str 25) z5) l_nil)))))) (fun s0 H0 c0 l0 f0 => (r_idx (e.blk s0 H0 _ _ f0).xc (vv 2) r_int))) l_nil))))) q_nil))))
/-- values_in -/
theorem body19 (nm : Nm fa fns ex K mg) {f : Addr} {cdv : Value} {A : Around} {outer : List Env} {s : Shared} {H : Hp} {E : XK} (e : Ev (Cc P w K) Tdf (cxOf CXn P w K mg base N19 "values_in" s19 f cdv A outer s H E).nox prg call k) : SXs (Cc P w K) (cxOf CXn P w K mg base N19 "values_in" s19 f cdv A outer s H E).nox prg call W b19 v19 :=
  (q_cons (q_setLc2 e.calm e.nd (by rfl) rfl (own := [("one", 2), ("term", 3)]) (vs1 := [3]) (i_val (y0 := false) (r_fld z11 (fl_acts nm rfl) (vv 0))) (blkOk_by (by kernel_rfl)) (by decide) (by decide) (by decide) (fun s0 H0 c0 l0 f0 => (g_var (e.blk s0 H0 _ _ f0).nd (by rfl) (by first | exact Or.inl rfl | exact Or.inr rfl))) (fun s0 H0 c0 l0 f0 => st_nil) (fun s0 H0 c0 l0 f0 => (i_val (y0 := false) (r_slc (vv 2) (o_some r_int) o_none))) (fun s0 H0 c0 l0 f0 => (g_var (e.blk s0 H0 _ _ f0).nd (by rfl) (by first | exact Or.inl rfl | exact Or.inr rfl))) (fun s0 H0 c0 l0 f0 => (st_one (b_w (w_and (b_val (r_isi (tab4 nm) (.ty _) (vv 3) (pe_bltn (v := .ty "tuple") (by rfl) (nm.free 4) bo_tuple rfl) (by rfl) (nm.free 1))) (w_and1 (b_val (x_call (e.blk s0 H0 _ _ f0) (n := 8) (by rfl) (by rfl) (nm.glo 21) (l_cons (vv 3) l_nil)))))))) (fun s0 H0 c0 l0 f0 => (vv 3))) (q_cons (q_ret (r_vls (l_lim (l_star (vv 1) (l_star (r_lc e.calm e.nd (own := [("one", 2)]) (i_val (y0 := false) (r_fld z10 (fl_whens nm rfl) (vv 0))) (blkOk_by (by kernel_rfl)) (by decide) (fun s0 H0 c0 l0 f0 => (g_var (e.blk s0 H0 _ _ f0).nd (by rfl) (by first | exact Or.inl rfl | exact Or.inr rfl))) (fun s0 H0 c0 l0 f0 => (st_one (b_w (w_and (b_cmp (u_in (e.blk s0 H0 _ _ f0).xc) (by with_unfolding_all rfl) (r_idx (e.blk s0 H0 _ _ f0).xc (vv 2) r_int) (r_tup (l_cons (x_gstr (by rfl) (nm.str 26) z6) (l_cons (x_gstr (by rfl) (nm.str 25) z5) l_nil)))) (w_and1 (b_notN (r_idx (e.blk s0 H0 _ _ f0).xc (vv 2) r_negc) r_non)))))) (fun s0 H0 c0 l0 f0 => (r_idx (e.blk s0 H0 _ _ f0).xc (vv 2) r_negc))) l_nil))))) q_nil))
/-- need_world -/
theorem body20 (nm : Nm fa fns ex K mg) {f : Addr} {cdv : Value} {A : Around} {outer : List Env} {s : Shared} {H : Hp} {E : XK} (e : Ev (Cc P w K) Tdf (cxOf CXn P w K mg base N20 "need_world" s20 f cdv A outer s H E).nox prg call k) : SXs (Cc P w K) (cxOf CXn P w K mg base N20 "need_world" s20 f cdv A outer s H E).nox prg call W b20 v20 :=
  (q_cons (q_if (b_not (b_val (r_isi (tab5 nm) (.own _) (vv 0) (pe_glob (v := .ref (He.ga K "World")) (by rfl) (nm.glo 32) rfl) (by rfl) (nm.free 1)))) (q_cons q_raise q_nil) q_nil) q_nil)
/-- is_value_of -/
theorem body21 (nm : Nm fa fns ex K mg) {f : Addr} {cdv : Value} {A : Around} {outer : List Env} {s : Shared} {H : Hp} {E : XK} (e : Ev (Cc P w K) Tdf (cxOf CXn P w K mg base N21 "is_value_of" s21 f cdv A outer s H E).nox prg call k) : SXs (Cc P w K) (cxOf CXn P w K mg base N21 "is_value_of" s21 f cdv A outer s H E).nox prg call W b21 v21 :=
  (q_cons (q_ret (r_and (x_call e (n := 8) (by rfl) (by rfl) (nm.glo 21) (l_cons (vv 1) l_nil)) (r_one (r_or (r_isN (vv 1) r_non) (r_one (r_meth z12 (x_methOk e (mt_has_value nm)) (vv 0) (l_cons (vv 1) l_nil))))))) q_nil)
/-- is_right_of -/
theorem body22 (nm : Nm fa fns ex K mg) {f : Addr} {cdv : Value} {A : Around} {outer : List Env} {s : Shared} {H : Hp} {E : XK} (e : Ev (Cc P w K) Tdf (cxOf CXn P w K mg base N22 "is_right_of" s22 f cdv A outer s H E).nox prg call k) : SXs (Cc P w K) (cxOf CXn P w K mg base N22 "is_right_of" s22 f cdv A outer s H E).nox prg call W b22 v22 :=
  (q_cons (q_ret (r_and (x_call e (n := 7) (by rfl) (by rfl) (nm.glo 16) (l_cons (vv 1) l_nil)) (r_one (r_meth z12 (x_methOk e (mt_has_value nm)) (vv 0) (l_cons (vv 1) l_nil))))) q_nil)
/-- is_message_of -/
theorem body23 (nm : Nm fa fns ex K mg) {f : Addr} {cdv : Value} {A : Around} {outer : List Env} {s : Shared} {H : Hp} {E : XK} (e : Ev (Cc P w K) Tdf (cxOf CXn P w K mg base N23 "is_message_of" s23 f cdv A outer s H E).nox prg call k) : SXs (Cc P w K) (cxOf CXn P w K mg base N23 "is_message_of" s23 f cdv A outer s H E).nox prg call W b23 v23 :=
  (q_cons (q_ret (r_and (x_call e (n := 2) (by rfl) (by rfl) (nm.glo 14) (l_cons (vv 1) (l_cons r_int l_nil))) (r_and (x_call e (n := 22) (by rfl) (by rfl) (nm.glo 34) (l_cons (vv 0) (l_cons (r_idx e.xc (vv 1) r_int) l_nil))) (r_one (x_call e (n := 21) (by rfl) (by rfl) (nm.glo 33) (l_cons (vv 0) (l_cons (r_idx e.xc (vv 1) r_int) l_nil))))))) q_nil)
end
end
end VI.K
namespace VI.K
open PySem PySem.Spec PyProof.Rows L2 VI
noncomputable section
section
variable {k W : Nat} {call : Nat → U → VH → VR} {P : Program} {w : World} {K : PySem.W.Frag} {mg : Str → Option Value} {base : Heap}
/-- is_count -/
theorem body24 (nm : Nm fa fns ex K mg) {f : Addr} {cdv : Value} {A : Around} {outer : List Env} {s : Shared} {H : Hp} {E : XK} (e : Ev (Cc P w K) Tdf (cxOf CXn P w K mg base N24 "is_count" s24 f cdv A outer s H E).nox prg call k) : SXs (Cc P w K) (cxOf CXn P w K mg base N24 "is_count" s24 f cdv A outer s H E).nox prg call W b24 v24 :=
  (q_cons (q_ret (r_and (x_call e (n := 0) (by rfl) (by rfl) (nm.glo 35) (l_cons (vv 0) l_nil)) (r_one (r_cmp u_ge (nomark _) (vv 0) r_int)))) q_nil)
/-- first_standing -/
theorem body25 (nm : Nm fa fns ex K mg) {f : Addr} {cdv : Value} {A : Around} {outer : List Env} {s : Shared} {H : Hp} {E : XK} (e : Ev (Cc P w K) Tdf (cxOf CXn P w K mg base N25 "first_standing" s25 f cdv A outer s H E).nox prg call k) : SXs (Cc P w K) (cxOf CXn P w K mg base N25 "first_standing" s25 f cdv A outer s H E).nox prg call W b25 v25 :=
  (q_cons (q_asg (r_bt (n := 5) (b_tuple) (by rfl) (nm.free 4) bo_tuple (l_cons (r_lc e.calm e.nd (own := [("part", 2)]) (i_val (y0 := false) (r_fld z15 (fl_parts nm rfl) (vv 0))) (blkOk_by (by kernel_rfl)) (by decide) (fun s0 H0 c0 l0 f0 => (g_var (e.blk s0 H0 _ _ f0).nd (by rfl) (by first | exact Or.inl rfl | exact Or.inr rfl))) (fun s0 H0 c0 l0 f0 => st_nil) (fun s0 H0 c0 l0 f0 => (r_tup (l_cons (r_idx (e.blk s0 H0 _ _ f0).xc (r_fld z17 (fl_states nm rfl) (vv 2)) r_int) (l_cons (r_fld z16 (fl_begin nm rfl) (vv 2)) l_nil))))) l_nil)) (g_var e.nd (by rfl) (by first | exact Or.inl rfl | exact Or.inr rfl))) (q_cons (q_ret (r_tup (l_cons (vv 1) (l_cons (r_bt (n := 5) (b_tuple) (by rfl) (nm.free 4) bo_tuple (l_cons (r_lc e.calm e.nd (own := [("person", 3)]) (i_val (y0 := false) (r_fld z13 (fl_people nm rfl) (vv 0))) (blkOk_by (by kernel_rfl)) (by decide) (fun s0 H0 c0 l0 f0 => (g_var (e.blk s0 H0 _ _ f0).nd (by rfl) (by first | exact Or.inl rfl | exact Or.inr rfl))) (fun s0 H0 c0 l0 f0 => st_nil) (fun s0 H0 c0 l0 f0 => (r_fld z14 (fl_holds nm rfl) (vv 3)))) l_nil)) l_nil)))) q_nil))
/-- told -/
theorem body26 (nm : Nm fa fns ex K mg) {f : Addr} {cdv : Value} {A : Around} {outer : List Env} {s : Shared} {H : Hp} {E : XK} (e : Ev (Cc P w K) Tdf (cxOf CXn P w K mg base N26 "told" s26 f cdv A outer s H E).nox prg call k) : SXs (Cc P w K) (cxOf CXn P w K mg base N26 "told" s26 f cdv A outer s H E).nox prg call W b26 v26 :=
  (q_cons (q_if (b_w (w_and (b_val (r_isi (tab4 nm) (.ty _) (vv 0) (pe_bltn (v := .ty "tuple") (by rfl) (nm.free 4) bo_tuple rfl) (by rfl) (nm.free 1))) (w_and1 (b_eq e.xc (r_idx e.xc (vv 0) r_int) (x_gstr (by rfl) (nm.str 24) z4))))) (q_cons (q_ret (vv 1)) q_nil) q_nil) (q_cons (q_if (b_w (w_and (b_val (r_isi (tab4 nm) (.ty _) (vv 0) (pe_bltn (v := .ty "tuple") (by rfl) (nm.free 4) bo_tuple rfl) (by rfl) (nm.free 1))) (w_and1 (b_eq e.xc (r_idx e.xc (vv 0) r_int) (x_gstr (by rfl) (nm.str 22) z3))))) (q_cons (q_ret (r_idx e.xc (vv 3) (r_bm (m := 4) (bm_index (by have := e.units; omega)) (r_fld z18 (fl_slots nm rfl) (vv 2)) (l_cons (r_idx e.xc (vv 0) r_int) l_nil)))) q_nil) q_nil) (q_cons (q_ret (vv 0)) q_nil)))
/-- is_so -/
theorem body27 (nm : Nm fa fns ex K mg) {f : Addr} {cdv : Value} {A : Around} {outer : List Env} {s : Shared} {H : Hp} {E : XK} (e : Ev (Cc P w K) Tdf (cxOf CXn P w K mg base N27 "is_so" s27 f cdv A outer s H E).nox prg call k) : SXs (Cc P w K) (cxOf CXn P w K mg base N27 "is_so" s27 f cdv A outer s H E).nox prg call W b27 v27 :=
  (q_cons (q_if (b_eq e.xc (r_idx e.xc (vv 0) r_int) (x_gstr (by rfl) (nm.str 26) z6)) (q_cons (q_ret (r_eq e.xc (vv 1) (r_idx e.xc (vv 0) r_int))) q_nil) q_nil) (q_cons (q_asg (r_idx e.xc (vv 3) (r_bm (m := 4) (bm_index (by have := e.units; omega)) (r_fld z18 (fl_slots nm rfl) (vv 2)) (l_cons (r_idx e.xc (vv 0) r_int) l_nil))) (g_var e.nd (by rfl) (by first | exact Or.inl rfl | exact Or.inr rfl))) (q_cons (q_ret (r_ife (b_eq e.xc (r_idx e.xc (vv 0) r_int) (x_gstr (by rfl) (nm.str 25) z5)) (r_eq e.xc (vv 4) (r_idx e.xc (vv 0) r_int)) (r_eq e.xc (vv 4) (vv 1)))) q_nil)))
/-- rule_for -/
theorem body28 (nm : Nm fa fns ex K mg) {f : Addr} {cdv : Value} {A : Around} {outer : List Env} {s : Shared} {H : Hp} {E : XK} (e : Ev (Cc P w K) Tdf (cxOf CXn P w K mg base N28 "rule_for" s28 f cdv A outer s H E).nox prg call k) : SXs (Cc P w K) (cxOf CXn P w K mg base N28 "rule_for" s28 f cdv A outer s H E).nox prg call W b28 v28 :=
  (q_cons (q_for e.own e.calm (i_val (y0 := false) (r_fld z19 (fl_rules nm rfl) (vv 0))) (g_var e.nd (by rfl) (by first | exact Or.inl rfl | exact Or.inr rfl)) (q_cons (q_if (b_w (w_and (b_eq e.xc (r_tup (l_cons (r_fld z21 (fl_state nm rfl) (vv 5)) (l_cons (r_fld z20 (fl_word nm rfl) (vv 5)) l_nil))) (r_tup (l_cons (vv 1) (l_cons (vv 3) l_nil)))) (w_and1 (b_val (r_bc (n := 1) (b_all e.calm) (by rfl) (nm.free 8) bo_all (l_cons (r_lc e.calm e.nd (own := [("when", 6)]) (i_val (y0 := false) (r_fld z10 (fl_whens nm rfl) (vv 5))) (blkOk_by (by kernel_rfl)) (by decide) (fun s0 H0 c0 l0 f0 => (g_var (e.blk s0 H0 _ _ f0).nd (by rfl) (by first | exact Or.inl rfl | exact Or.inr rfl))) (fun s0 H0 c0 l0 f0 => st_nil) (fun s0 H0 c0 l0 f0 => (x_call (e.blk s0 H0 _ _ f0) (n := 27) (by rfl) (by rfl) (nm.glo 36) (l_cons (vv 6) (l_cons (vv 4) (l_cons (vv 0) (l_cons (vv 2) l_nil))))))) l_nil)))))) (q_cons (q_ret (vv 5)) q_nil) q_nil) q_nil)) (q_cons (q_ret r_non) q_nil))
/-- heard -/
theorem body29 (nm : Nm fa fns ex K mg) {f : Addr} {cdv : Value} {A : Around} {outer : List Env} {s : Shared} {H : Hp} {E : XK} (e : Ev (Cc P w K) Tdf (cxOf CXn P w K mg base N29 "heard" s29 f cdv A outer s H E).nox prg call k) : SXs (Cc P w K) (cxOf CXn P w K mg base N29 "heard" s29 f cdv A outer s H E).nox prg call W b29 v29 :=
  (q_cons (q_asg (r_slc (vv 2) (o_some r_int) o_none) (g_tup e.calm (g_cons (g_var e.nd (by rfl) (by first | exact Or.inl rfl | exact Or.inr rfl)) (g_cons (g_var e.nd (by rfl) (by first | exact Or.inl rfl | exact Or.inr rfl)) g_nil)) (asg_lenS (asg_lenS asg_len0)))) (q_cons (q_if (b_cmp (u_in e.xc) (by with_unfolding_all rfl) (vv 4) (r_fld z24 (fl_seats nm rfl) (vv 0))) (q_cons (q_asg (r_idx e.xc (r_fld z24 (fl_seats nm rfl) (vv 0)) (vv 4)) (g_var e.nd (by rfl) (by first | exact Or.inl rfl | exact Or.inr rfl))) (q_cons (q_asg (r_ife (b_isN (vv 3) r_non) (r_idx e.xc (r_idx e.xc (vv 1) r_int) (vv 6)) (x_call e (n := 10) (by rfl) (by rfl) (nm.glo 39) (l_cons (r_vls (l_lim (l_star (r_idx e.xc (r_idx e.xc (vv 1) r_int) (vv 6)) (l_cons (vv 3) l_nil)))) l_nil))) (g_var e.nd (by rfl) (by first | exact Or.inl rfl | exact Or.inr rfl))) (q_cons (q_ret (r_tup (l_cons (r_tup (l_cons (r_idx e.xc (vv 1) r_int) (l_cons (r_tup (l_lim (l_star (r_slc (r_idx e.xc (vv 1) r_int) o_none (o_some (vv 6))) (l_cons (vv 7) (l_star (r_slc (r_idx e.xc (vv 1) r_int) (o_some (r_add (vv 6) r_int)) o_none) l_nil))))) l_nil))) (l_cons (r_vls l_nil) l_nil)))) q_nil))) q_nil) (q_cons (q_asg (r_idx e.xc (r_fld z23 (fl_spots nm rfl) (vv 0)) (vv 4)) (g_var e.nd (by rfl) (by first | exact Or.inl rfl | exact Or.inr rfl))) (q_cons (q_asg (r_tup (l_cons (r_idx e.xc (r_fld z15 (fl_parts nm rfl) (vv 0)) (vv 6)) (l_cons (r_idx e.xc (r_idx e.xc (vv 1) r_int) (vv 6)) l_nil))) (g_tup e.calm (g_cons (g_var e.nd (by rfl) (by first | exact Or.inl rfl | exact Or.inr rfl)) (g_cons (g_tup e.calm (g_cons (g_var e.nd (by rfl) (by first | exact Or.inl rfl | exact Or.inr rfl)) (g_cons (g_var e.nd (by rfl) (by first | exact Or.inl rfl | exact Or.inr rfl)) g_nil)) (asg_lenS (asg_lenS asg_len0))) g_nil)) (asg_lenS (asg_lenS asg_len0)))) (q_cons (q_asg (x_call e (n := 28) (by rfl) (by rfl) (nm.glo 38) (l_cons (vv 8) (l_cons (vv 9) (l_cons (vv 10) (l_cons (vv 5) (l_cons (vv 3) l_nil)))))) (g_var e.nd (by rfl) (by first | exact Or.inl rfl | exact Or.inr rfl))) (q_cons (q_if (b_isN (vv 11) r_non) (q_cons (q_ret (r_tup (l_cons (vv 1) (l_cons (r_vls l_nil) l_nil)))) q_nil) q_nil) (q_cons (q_par e (i := 12) (j := 13) (by rfl) (by rfl) (by decide) rfl rfl (l_cons (r_lst l_nil) (l_cons (r_bt (n := 6) (b_list) (by rfl) (nm.free 3) bo_list (l_cons (vv 10) l_nil)) l_nil))) (q_cons (q_for e.own e.calm (i_val (y0 := false) (r_fld z11 (fl_acts nm rfl) (vv 11))) (g_tup e.calm (g_cons (g_var e.nd (by rfl) (by first | exact Or.inl rfl | exact Or.inr rfl)) (g_cons (g_var e.nd (by rfl) (by first | exact Or.inl rfl | exact Or.inr rfl)) (g_cons (g_var e.nd (by rfl) (by first | exact Or.inl rfl | exact Or.inr rfl)) g_nil))) (asg_lenS (asg_lenS (asg_lenS asg_len0)))) (q_cons (q_if (b_eq e.xc (vv 14) (x_gstr (by rfl) (nm.str 30) z9)) (q_cons (q_asgI e.xc (vv 13) (r_bm (m := 4) (bm_index (by have := e.units; omega)) (r_fld z18 (fl_slots nm rfl) (vv 8)) (l_cons (vv 15) l_nil)) (x_call e (n := 26) (by rfl) (by rfl) (nm.glo 37) (l_cons (vv 16) (l_cons (vv 3) (l_cons (vv 8) (l_cons (vv 10) l_nil)))))) q_nil) (q_cons (q_asg (x_call e (n := 26) (by rfl) (by rfl) (nm.glo 37) (l_cons (vv 15) (l_cons (vv 3) (l_cons (vv 8) (l_cons (vv 10) l_nil))))) (g_var e.nd (by rfl) (by first | exact Or.inl rfl | exact Or.inr rfl))) (q_cons (q_if (b_w (w_and (b_notN (vv 17) r_non) (w_and1 (b_eq e.xc (r_idx e.xc (vv 17) r_int) (r_str z2))))) (q_cons (q_ex (r_bm (m := 0) bm_append (vv 12) (l_cons (r_tup (l_cons (vv 17) (l_cons (x_call e (n := 26) (by rfl) (by rfl) (nm.glo 37) (l_cons (vv 16) (l_cons (vv 3) (l_cons (vv 8) (l_cons (vv 10) l_nil))))) l_nil))) l_nil))) q_nil) q_nil) q_nil))) q_nil)) (q_cons (q_ret (r_tup (l_cons (r_tup (l_cons (r_tup (l_lim (l_star (r_slc (r_idx e.xc (vv 1) r_int) o_none (o_some (vv 6))) (l_cons (r_tup (l_cons (r_fld z22 (fl_later nm rfl) (vv 11)) (l_cons (r_bt (n := 5) (b_tuple) (by rfl) (nm.free 4) bo_tuple (l_cons (vv 13) l_nil)) l_nil))) (l_star (r_slc (r_idx e.xc (vv 1) r_int) (o_some (r_add (vv 6) r_int)) o_none) l_nil))))) (l_cons (r_idx e.xc (vv 1) r_int) l_nil))) (l_cons (vv 12) l_nil)))) q_nil)))))))))
/-- mended -/
theorem body30 (nm : Nm fa fns ex K mg) {f : Addr} {cdv : Value} {A : Around} {outer : List Env} {s : Shared} {H : Hp} {E : XK} (e : Ev (Cc P w K) Tdf (cxOf CXn P w K mg base N30 "mended" s30 f cdv A outer s H E).nox prg call k) : SXs (Cc P w K) (cxOf CXn P w K mg base N30 "mended" s30 f cdv A outer s H E).nox prg call W b30 v30 :=
  (q_cons (q_asg (r_idx e.xc (r_fld z23 (fl_spots nm rfl) (vv 0)) (vv 2)) (g_var e.nd (by rfl) (by first | exact Or.inl rfl | exact Or.inr rfl))) (q_cons (q_asg (r_idx e.xc (r_fld z15 (fl_parts nm rfl) (vv 0)) (vv 3)) (g_var e.nd (by rfl) (by first | exact Or.inl rfl | exact Or.inr rfl))) (q_cons (q_ret (r_tup (l_cons (r_tup (l_lim (l_star (r_slc (r_idx e.xc (vv 1) r_int) o_none (o_some (vv 3))) (l_cons (r_tup (l_cons (r_idx e.xc (r_fld z17 (fl_states nm rfl) (vv 4)) r_int) (l_cons (r_fld z16 (fl_begin nm rfl) (vv 4)) l_nil))) (l_star (r_slc (r_idx e.xc (vv 1) r_int) (o_some (r_add (vv 3) r_int)) o_none) l_nil))))) (l_cons (r_idx e.xc (vv 1) r_int) l_nil)))) q_nil)))
/-- air_rows -/
theorem body31 (nm : Nm fa fns ex K mg) {f : Addr} {cdv : Value} {A : Around} {outer : List Env} {s : Shared} {H : Hp} {E : XK} (e : Ev (Cc P w K) Tdf (cxOf CXn P w K mg base N31 "air_rows" s31 f cdv A outer s H E).nox prg call k) : SXs (Cc P w K) (cxOf CXn P w K mg base N31 "air_rows" s31 f cdv A outer s H E).nox prg call W b31 v31 :=
  (q_cons (q_setLc e.calm e.nd (by rfl) rfl (own := [("message", 2)]) (i_val (y0 := false) (r_sortK (g := 11) e.xc (fun B h => e.call2 h) (by rfl) (nm.free 18) (by rfl) (nm.glo 40) (by rfl) (ha := (vv 0)))) (blkOk_by (by kernel_rfl)) (by decide) (fun s0 H0 c0 l0 f0 => (g_var (e.blk s0 H0 _ _ f0).nd (by rfl) (by first | exact Or.inl rfl | exact Or.inr rfl))) (fun s0 H0 c0 l0 f0 => st_nil) (fun s0 H0 c0 l0 f0 => (r_tup (l_cons (r_idx (e.blk s0 H0 _ _ f0).xc (vv 2) r_int) (l_cons (r_idx (e.blk s0 H0 _ _ f0).xc (vv 2) r_int) (l_cons (r_idx (e.blk s0 H0 _ _ f0).xc (vv 0) (vv 2)) l_nil)))))) (q_cons (q_ret (r_bt (n := 5) (b_tuple) (by rfl) (nm.free 4) bo_tuple (l_cons (r_lc e.calm e.nd (own := [("row", 3)]) (i_val (y0 := false) (vv 1)) (blkOk_by (by kernel_rfl)) (by decide) (fun s0 H0 c0 l0 f0 => (g_var (e.blk s0 H0 _ _ f0).nd (by rfl) (by first | exact Or.inl rfl | exact Or.inr rfl))) (fun s0 H0 c0 l0 f0 => (st_one (b_cmp u_gt (nomark _) (r_idx (e.blk s0 H0 _ _ f0).xc (vv 3) r_int) r_int))) (fun s0 H0 c0 l0 f0 => (vv 3))) l_nil))) q_nil))
/-- air_of -/
theorem body32 (nm : Nm fa fns ex K mg) {f : Addr} {cdv : Value} {A : Around} {outer : List Env} {s : Shared} {H : Hp} {E : XK} (e : Ev (Cc P w K) Tdf (cxOf CXn P w K mg base N32 "air_of" s32 f cdv A outer s H E).nox prg call k) : SXs (Cc P w K) (cxOf CXn P w K mg base N32 "air_of" s32 f cdv A outer s H E).nox prg call W b32 v32 :=
  (q_cons (q_ret (r_dc e.xc (own := [("right", 1), ("value", 2), ("many", 3)]) (i_val (y0 := false) (vv 0)) (blkOk_by (by kernel_rfl)) (by decide) (fun s0 H0 c0 l0 f0 => (g_tup (e.blk s0 H0 _ _ f0).calm (g_cons (g_var (e.blk s0 H0 _ _ f0).nd (by rfl) (by first | exact Or.inl rfl | exact Or.inr rfl)) (g_cons (g_var (e.blk s0 H0 _ _ f0).nd (by rfl) (by first | exact Or.inl rfl | exact Or.inr rfl)) (g_cons (g_var (e.blk s0 H0 _ _ f0).nd (by rfl) (by first | exact Or.inl rfl | exact Or.inr rfl)) g_nil))) (asg_lenS (asg_lenS (asg_lenS asg_len0))))) (fun s0 H0 c0 l0 f0 => st_nil) (fun s0 H0 c0 l0 f0 => (r_tup (l_cons (vv 1) (l_cons (vv 2) l_nil)))) (fun s0 H0 c0 l0 f0 => (vv 3)))) q_nil)
/-- first_spot -/
theorem body33 (nm : Nm fa fns ex K mg) {f : Addr} {cdv : Value} {A : Around} {outer : List Env} {s : Shared} {H : Hp} {E : XK} (e : Ev (Cc P w K) Tdf (cxOf CXn P w K mg base N33 "first_spot" s33 f cdv A outer s H E).nox prg call k) : SXs (Cc P w K) (cxOf CXn P w K mg base N33 "first_spot" s33 f cdv A outer s H E).nox prg call W b33 v33 :=
  (q_cons (q_ex (x_call e (n := 20) (by rfl) (by rfl) (nm.glo 42) (l_cons (vv 0) l_nil))) (q_cons (q_ret (r_tup (l_cons (x_call e (n := 25) (by rfl) (by rfl) (nm.glo 41) (l_cons (vv 0) l_nil)) (l_cons (r_tup l_nil) l_nil)))) q_nil))
/-- with_more -/
theorem body34 (nm : Nm fa fns ex K mg) {f : Addr} {cdv : Value} {A : Around} {outer : List Env} {s : Shared} {H : Hp} {E : XK} (e : Ev (Cc P w K) Tdf (cxOf CXn P w K mg base N34 "with_more" s34 f cdv A outer s H E).nox prg call k) : SXs (Cc P w K) (cxOf CXn P w K mg base N34 "with_more" s34 f cdv A outer s H E).nox prg call W b34 v34 :=
  (q_cons (q_asg (r_bt (n := 8) (b_dict e.xc) (by rfl) (nm.free 43) bo_dict (l_cons (vv 0) l_nil)) (g_var e.nd (by rfl) (by first | exact Or.inl rfl | exact Or.inr rfl))) (q_cons (q_for e.own e.calm (i_val (y0 := false) (vv 1)) (g_var e.nd (by rfl) (by first | exact Or.inl rfl | exact Or.inr rfl)) (q_cons (q_asgI e.xc (vv 2) (vv 3) (r_add (r_bm (m := 6) (bm_getD e.xc) (vv 2) (l_cons (vv 3) (l_cons r_int l_nil))) r_int)) q_nil)) (q_cons (q_ret (vv 2)) q_nil)))
/-- with_less -/
theorem body35 (nm : Nm fa fns ex K mg) {f : Addr} {cdv : Value} {A : Around} {outer : List Env} {s : Shared} {H : Hp} {E : XK} (e : Ev (Cc P w K) Tdf (cxOf CXn P w K mg base N35 "with_less" s35 f cdv A outer s H E).nox prg call k) : SXs (Cc P w K) (cxOf CXn P w K mg base N35 "with_less" s35 f cdv A outer s H E).nox prg call W b35 v35 :=
  (q_cons (q_asg (r_bt (n := 8) (b_dict e.xc) (by rfl) (nm.free 43) bo_dict (l_cons (vv 0) l_nil)) (g_var e.nd (by rfl) (by first | exact Or.inl rfl | exact Or.inr rfl))) (q_cons (q_asgI e.xc (vv 2) (vv 1) (r_sub (r_idx e.xc (vv 2) (vv 1)) r_int)) (q_cons (q_if (b_eq e.xc (r_idx e.xc (vv 2) (vv 1)) r_int) (q_cons (q_del e.xc (vv 2) (vv 1)) q_nil) q_nil) (q_cons (q_ret (vv 2)) q_nil))))
end
end
end VI.K
namespace VI.K
open PySem PySem.Spec PyProof.Rows L2 VI
noncomputable section
section
variable {k W : Nat} {call : Nat → U → VH → VR} {P : Program} {w : World} {K : PySem.W.Frag} {mg : Str → Option Value} {base : Heap}
/-- is_deed -/
theorem body36 (nm : Nm fa fns ex K mg) {f : Addr} {cdv : Value} {A : Around} {outer : List Env} {s : Shared} {H : Hp} {E : XK} (e : Ev (Cc P w K) Tdf (cxOf CXn P w K mg base N36 "is_deed" s36 f cdv A outer s H E).nox prg call k) : SXs (Cc P w K) (cxOf CXn P w K mg base N36 "is_deed" s36 f cdv A outer s H E).nox prg call W b36 v36 :=
  (q_cons (q_if (b_w (w_or (b_not (b_val (x_call e (n := 1) (by rfl) (by rfl) (nm.glo 6) (l_cons (vv 1) l_nil)))) (w_or (b_cmp (u_lt' e.xc) (nomark _) (r_bc (n := 0) (b_len e.xc) (by rfl) (nm.free 5) bo_len (l_cons (vv 1) l_nil)) r_int) (w_or1 (b_not (b_val (r_isi (tab3 nm) (.ty _) (r_idx e.xc (vv 1) r_int) (pe_bltn (v := .ty "str") (by rfl) (nm.free 10) bo_str rfl) (by rfl) (nm.free 1)))))))) (q_cons (q_ret r_bl) q_nil) q_nil) (q_cons (q_if (b_eq e.xc (r_idx e.xc (vv 1) r_int) (x_gstr (by rfl) (nm.str 48) z8)) (q_cons (q_ret (r_and (r_eq e.xc (r_bc (n := 0) (b_len e.xc) (by rfl) (nm.free 5) bo_len (l_cons (vv 1) l_nil)) r_int) (r_and (x_call e (n := 3) (by rfl) (by rfl) (nm.glo 12) (l_cons (r_idx e.xc (vv 1) r_int) l_nil)) (r_and (r_cmp (u_in e.xc) (by with_unfolding_all rfl) (r_idx e.xc (vv 1) r_int) (r_fld z24 (fl_seats nm rfl) (vv 0))) (r_one (x_call e (n := 23) (by rfl) (by rfl) (nm.glo 44) (l_cons (vv 0) (l_cons (r_slc (vv 1) (o_some r_int) o_none) l_nil)))))))) q_nil) q_nil) (q_cons (q_if (b_eq e.xc (r_idx e.xc (vv 1) r_int) (x_gstr (by rfl) (nm.str 47) z27)) (q_cons (q_ret (r_and (r_eq e.xc (r_bc (n := 0) (b_len e.xc) (by rfl) (nm.free 5) bo_len (l_cons (vv 1) l_nil)) r_int) (r_and (x_call e (n := 3) (by rfl) (by rfl) (nm.glo 12) (l_cons (r_idx e.xc (vv 1) r_int) l_nil)) (r_one (r_cmp (u_in e.xc) (by with_unfolding_all rfl) (r_idx e.xc (vv 1) r_int) (r_fld z23 (fl_spots nm rfl) (vv 0))))))) q_nil) q_nil) (q_cons (q_ret (r_and (r_cmp (u_in e.xc) (by with_unfolding_all rfl) (r_idx e.xc (vv 1) r_int) (r_tup (l_cons (x_gstr (by rfl) (nm.str 46) z26) (l_cons (x_gstr (by rfl) (nm.str 45) z25) l_nil)))) (r_and (r_eq e.xc (r_bc (n := 0) (b_len e.xc) (by rfl) (nm.free 5) bo_len (l_cons (vv 1) l_nil)) r_int) (r_one (x_call e (n := 23) (by rfl) (by rfl) (nm.glo 44) (l_cons (vv 0) (l_cons (r_slc (vv 1) (o_some r_int) o_none) l_nil))))))) q_nil))))
/-- can_do -/
theorem body37 (nm : Nm fa fns ex K mg) {f : Addr} {cdv : Value} {A : Around} {outer : List Env} {s : Shared} {H : Hp} {E : XK} (e : Ev (Cc P w K) Tdf (cxOf CXn P w K mg base N37 "can_do" s37 f cdv A outer s H E).nox prg call k) : SXs (Cc P w K) (cxOf CXn P w K mg base N37 "can_do" s37 f cdv A outer s H E).nox prg call W b37 v37 :=
  (q_cons (q_if (b_eq e.xc (r_idx e.xc (vv 2) r_int) (x_gstr (by rfl) (nm.str 48) z8)) (q_cons (q_asg (r_idx e.xc (r_idx e.xc (r_idx e.xc (vv 1) r_int) r_int) (r_idx e.xc (r_fld z24 (fl_seats nm rfl) (vv 0)) (r_idx e.xc (vv 2) r_int))) (g_var e.nd (by rfl) (by first | exact Or.inl rfl | exact Or.inr rfl))) (q_cons (q_ret (r_and (r_cmp (u_in e.xc) (by with_unfolding_all rfl) (r_idx e.xc (vv 2) r_int) (vv 3)) (r_one (r_or (r_isN (r_idx e.xc (vv 2) r_int) r_non) (r_one (r_cmp (u_in e.xc) (by with_unfolding_all rfl) (r_idx e.xc (vv 2) r_int) (vv 3))))))) q_nil)) q_nil) (q_cons (q_ret (r_or (r_eq e.xc (r_idx e.xc (vv 2) r_int) (x_gstr (by rfl) (nm.str 47) z27)) (r_one (r_cmp (u_in e.xc) (by with_unfolding_all rfl) (r_tup (l_cons (r_idx e.xc (vv 2) r_int) (l_cons (r_idx e.xc (vv 2) r_int) l_nil))) (x_call e (n := 32) (by rfl) (by rfl) (nm.glo 49) (l_cons (r_idx e.xc (vv 1) r_int) l_nil)))))) q_nil))
/-- done -/
theorem body38 (nm : Nm fa fns ex K mg) {f : Addr} {cdv : Value} {A : Around} {outer : List Env} {s : Shared} {H : Hp} {E : XK} (e : Ev (Cc P w K) Tdf (cxOf CXn P w K mg base N38 "done" s38 f cdv A outer s H E).nox prg call k) : SXs (Cc P w K) (cxOf CXn P w K mg base N38 "done" s38 f cdv A outer s H E).nox prg call W b38 v38 :=
  (q_cons (q_par e (i := 3) (j := 4) (by rfl) (by rfl) (by decide) rfl rfl (l_cons (r_idx e.xc (vv 1) r_int) (l_cons (x_call e (n := 32) (by rfl) (by rfl) (nm.glo 49) (l_cons (r_idx e.xc (vv 1) r_int) l_nil)) l_nil))) (q_cons (q_if (b_eq e.xc (r_idx e.xc (vv 2) r_int) (x_gstr (by rfl) (nm.str 48) z8)) (q_cons (q_ret (r_tup (l_cons (vv 3) (l_cons (x_call e (n := 31) (by rfl) (by rfl) (nm.glo 51) (l_cons (x_call e (n := 34) (by rfl) (by rfl) (nm.glo 50) (l_cons (vv 4) (l_cons (r_vls (l_cons (r_tup (l_cons (r_idx e.xc (vv 2) r_int) (l_cons (r_idx e.xc (vv 2) r_int) l_nil))) l_nil)) l_nil))) l_nil)) l_nil)))) q_nil) q_nil) (q_cons (q_if (b_eq e.xc (r_idx e.xc (vv 2) r_int) (x_gstr (by rfl) (nm.str 47) z27)) (q_cons (q_ret (r_tup (l_cons (x_call e (n := 30) (by rfl) (by rfl) (nm.glo 54) (l_cons (vv 0) (l_cons (vv 3) (l_cons (r_idx e.xc (vv 2) r_int) l_nil)))) (l_cons (r_idx e.xc (vv 1) r_int) l_nil)))) q_nil) q_nil) (q_cons (q_asg (x_call e (n := 35) (by rfl) (by rfl) (nm.glo 53) (l_cons (vv 4) (l_cons (r_tup (l_cons (r_idx e.xc (vv 2) r_int) (l_cons (r_idx e.xc (vv 2) r_int) l_nil))) l_nil))) (g_var e.nd (by rfl) (by first | exact Or.inl rfl | exact Or.inr rfl))) (q_cons (q_if (b_eq e.xc (r_idx e.xc (vv 2) r_int) (x_gstr (by rfl) (nm.str 45) z25)) (q_cons (q_ret (r_tup (l_cons (vv 3) (l_cons (x_call e (n := 31) (by rfl) (by rfl) (nm.glo 51) (l_cons (vv 4) l_nil)) l_nil)))) q_nil) q_nil) (q_cons (q_asg (x_call e (n := 29) (by rfl) (by rfl) (nm.glo 52) (l_cons (vv 0) (l_cons (vv 3) (l_cons (r_idx e.xc (vv 2) r_int) (l_cons (r_idx e.xc (vv 2) r_int) l_nil))))) (g_tup e.calm (g_cons (g_var e.nd (by rfl) (by first | exact Or.inl rfl | exact Or.inr rfl)) (g_cons (g_var e.nd (by rfl) (by first | exact Or.inl rfl | exact Or.inr rfl)) g_nil)) (asg_lenS (asg_lenS asg_len0)))) (q_cons (q_ret (r_tup (l_cons (vv 3) (l_cons (x_call e (n := 31) (by rfl) (by rfl) (nm.glo 51) (l_cons (x_call e (n := 34) (by rfl) (by rfl) (nm.glo 50) (l_cons (vv 4) (l_cons (vv 5) l_nil))) l_nil)) l_nil)))) q_nil)))))))
/-- is_holding -/
theorem body39 (nm : Nm fa fns ex K mg) {f : Addr} {cdv : Value} {A : Around} {outer : List Env} {s : Shared} {H : Hp} {E : XK} (e : Ev (Cc P w K) Tdf (cxOf CXn P w K mg base N39 "is_holding" s39 f cdv A outer s H E).nox prg call k) : SXs (Cc P w K) (cxOf CXn P w K mg base N39 "is_holding" s39 f cdv A outer s H E).nox prg call W b39 v39 :=
  (q_cons (q_if (b_w (w_or (b_not (b_val (x_call e (n := 1) (by rfl) (by rfl) (nm.glo 6) (l_cons (vv 1) l_nil)))) (w_or1 (b_not (b_val (r_bc (n := 1) (b_all e.calm) (by rfl) (nm.free 8) bo_all (l_cons (r_lc e.calm e.nd (own := [("one", 2)]) (i_val (y0 := false) (vv 1)) (blkOk_by (by kernel_rfl)) (by decide) (fun s0 H0 c0 l0 f0 => (g_var (e.blk s0 H0 _ _ f0).nd (by rfl) (by first | exact Or.inl rfl | exact Or.inr rfl))) (fun s0 H0 c0 l0 f0 => st_nil) (fun s0 H0 c0 l0 f0 => (r_and (r_notN (vv 2) r_non) (r_one (x_call (e.blk s0 H0 _ _ f0) (n := 21) (by rfl) (by rfl) (nm.glo 33) (l_cons (vv 0) (l_cons (vv 2) l_nil))))))) l_nil))))))) (q_cons (q_ret r_bl) q_nil) q_nil) (q_cons (q_ret (r_eq e.xc (x_call e (n := 5) (by rfl) (by rfl) (nm.glo 11) (l_cons (vv 1) l_nil)) (x_call e (n := 10) (by rfl) (by rfl) (nm.glo 39) (l_cons (x_call e (n := 5) (by rfl) (by rfl) (nm.glo 11) (l_cons (vv 1) l_nil)) l_nil)))) q_nil))
/-- is_standing -/
theorem body40 (nm : Nm fa fns ex K mg) {f : Addr} {cdv : Value} {A : Around} {outer : List Env} {s : Shared} {H : Hp} {E : XK} (e : Ev (Cc P w K) Tdf (cxOf CXn P w K mg base N40 "is_standing" s40 f cdv A outer s H E).nox prg call k) : SXs (Cc P w K) (cxOf CXn P w K mg base N40 "is_standing" s40 f cdv A outer s H E).nox prg call W b40 v40 :=
  (q_cons (q_if (b_w (w_or (b_not (b_val (x_call e (n := 2) (by rfl) (by rfl) (nm.glo 14) (l_cons (vv 1) (l_cons r_int l_nil))))) (w_or (b_not (b_val (x_call e (n := 2) (by rfl) (by rfl) (nm.glo 14) (l_cons (r_idx e.xc (vv 1) r_int) (l_cons (r_bc (n := 0) (b_len e.xc) (by rfl) (nm.free 5) bo_len (l_cons (r_fld z15 (fl_parts nm rfl) (vv 0)) l_nil)) l_nil))))) (w_or1 (b_not (b_val (x_call e (n := 2) (by rfl) (by rfl) (nm.glo 14) (l_cons (r_idx e.xc (vv 1) r_int) (l_cons (r_bc (n := 0) (b_len e.xc) (by rfl) (nm.free 5) bo_len (l_cons (r_fld z13 (fl_people nm rfl) (vv 0)) l_nil)) l_nil))))))))) (q_cons (q_ret r_bl) q_nil) q_nil) (q_cons (q_for e.own e.calm (i_zip (by rfl) (nm.free 20) (r_fld z15 (fl_parts nm rfl) (vv 0)) (r_idx e.xc (vv 1) r_int)) (g_tup e.calm (g_cons (g_var e.nd (by rfl) (by first | exact Or.inl rfl | exact Or.inr rfl)) (g_cons (g_var e.nd (by rfl) (by first | exact Or.inl rfl | exact Or.inr rfl)) g_nil)) (asg_lenS (asg_lenS asg_len0))) (q_cons (q_if (b_w (w_or (b_not (b_val (x_call e (n := 2) (by rfl) (by rfl) (nm.glo 14) (l_cons (vv 3) (l_cons r_int l_nil))))) (w_or (b_not (b_val (x_call e (n := 3) (by rfl) (by rfl) (nm.glo 12) (l_cons (r_idx e.xc (vv 3) r_int) l_nil)))) (w_or1 (b_cmp (u_notIn e.xc) (by with_unfolding_all rfl) (r_idx e.xc (vv 3) r_int) (r_fld z17 (fl_states nm rfl) (vv 2))))))) (q_cons (q_ret r_bl) q_nil) q_nil) (q_cons (q_if (b_w (w_or (b_not (b_val (x_call e (n := 2) (by rfl) (by rfl) (nm.glo 14) (l_cons (r_idx e.xc (vv 3) r_int) (l_cons (r_bc (n := 0) (b_len e.xc) (by rfl) (nm.free 5) bo_len (l_cons (r_fld z18 (fl_slots nm rfl) (vv 2)) l_nil)) l_nil))))) (w_or1 (b_not (b_val (r_bc (n := 1) (b_all e.calm) (by rfl) (nm.free 8) bo_all (l_cons (r_lc e.calm e.nd (own := [("one", 4)]) (i_val (y0 := false) (r_idx e.xc (vv 3) r_int)) (blkOk_by (by kernel_rfl)) (by decide) (fun s0 H0 c0 l0 f0 => (g_var (e.blk s0 H0 _ _ f0).nd (by rfl) (by first | exact Or.inl rfl | exact Or.inr rfl))) (fun s0 H0 c0 l0 f0 => st_nil) (fun s0 H0 c0 l0 f0 => (x_call (e.blk s0 H0 _ _ f0) (n := 21) (by rfl) (by rfl) (nm.glo 33) (l_cons (vv 0) (l_cons (vv 4) l_nil))))) l_nil))))))) (q_cons (q_ret r_bl) q_nil) q_nil) q_nil))) (q_cons (q_ret (r_bc (n := 1) (b_all e.calm) (by rfl) (nm.free 8) bo_all (l_cons (r_lc e.calm e.nd (own := [("one", 4)]) (i_val (y0 := false) (r_idx e.xc (vv 1) r_int)) (blkOk_by (by kernel_rfl)) (by decide) (fun s0 H0 c0 l0 f0 => (g_var (e.blk s0 H0 _ _ f0).nd (by rfl) (by first | exact Or.inl rfl | exact Or.inr rfl))) (fun s0 H0 c0 l0 f0 => st_nil) (fun s0 H0 c0 l0 f0 => (x_call (e.blk s0 H0 _ _ f0) (n := 39) (by rfl) (by rfl) (nm.glo 55) (l_cons (vv 0) (l_cons (vv 4) l_nil))))) l_nil))) q_nil)))
/-- is_air -/
theorem body41 (nm : Nm fa fns ex K mg) {f : Addr} {cdv : Value} {A : Around} {outer : List Env} {s : Shared} {H : Hp} {E : XK} (e : Ev (Cc P w K) Tdf (cxOf CXn P w K mg base N41 "is_air" s41 f cdv A outer s H E).nox prg call k) : SXs (Cc P w K) (cxOf CXn P w K mg base N41 "is_air" s41 f cdv A outer s H E).nox prg call W b41 v41 :=
  (q_cons (q_if (b_w (w_or (b_not (b_val (x_call e (n := 1) (by rfl) (by rfl) (nm.glo 6) (l_cons (vv 1) l_nil)))) (w_or1 (b_not (b_val (r_bc (n := 1) (b_all e.calm) (by rfl) (nm.free 8) bo_all (l_cons (r_lc e.calm e.nd (own := [("row", 2)]) (i_val (y0 := false) (vv 1)) (blkOk_by (by kernel_rfl)) (by decide) (fun s0 H0 c0 l0 f0 => (g_var (e.blk s0 H0 _ _ f0).nd (by rfl) (by first | exact Or.inl rfl | exact Or.inr rfl))) (fun s0 H0 c0 l0 f0 => st_nil) (fun s0 H0 c0 l0 f0 => (x_call (e.blk s0 H0 _ _ f0) (n := 2) (by rfl) (by rfl) (nm.glo 14) (l_cons (vv 2) (l_cons r_int l_nil))))) l_nil))))))) (q_cons (q_ret r_bl) q_nil) q_nil) (q_cons (q_if (b_not (b_val (r_bc (n := 1) (b_all e.calm) (by rfl) (nm.free 8) bo_all (l_cons (r_lc e.calm e.nd (own := [("row", 2)]) (i_val (y0 := false) (vv 1)) (blkOk_by (by kernel_rfl)) (by decide) (fun s0 H0 c0 l0 f0 => (g_var (e.blk s0 H0 _ _ f0).nd (by rfl) (by first | exact Or.inl rfl | exact Or.inr rfl))) (fun s0 H0 c0 l0 f0 => st_nil) (fun s0 H0 c0 l0 f0 => (r_and (x_call (e.blk s0 H0 _ _ f0) (n := 23) (by rfl) (by rfl) (nm.glo 44) (l_cons (vv 0) (l_cons (r_slc (vv 2) o_none (o_some r_int)) l_nil))) (r_one (x_call (e.blk s0 H0 _ _ f0) (n := 24) (by rfl) (by rfl) (nm.glo 56) (l_cons (r_idx (e.blk s0 H0 _ _ f0).xc (vv 2) r_int) l_nil)))))) l_nil)))) (q_cons (q_ret r_bl) q_nil) q_nil) (q_cons (q_setLc e.calm e.nd (by rfl) rfl (own := [("row", 2)]) (i_val (y0 := false) (vv 1)) (blkOk_by (by kernel_rfl)) (by decide) (fun s0 H0 c0 l0 f0 => (g_var (e.blk s0 H0 _ _ f0).nd (by rfl) (by first | exact Or.inl rfl | exact Or.inr rfl))) (fun s0 H0 c0 l0 f0 => st_nil) (fun s0 H0 c0 l0 f0 => (x_call (e.blk s0 H0 _ _ f0) (n := 11) (by rfl) (by rfl) (nm.glo 40) (l_cons (x_call (e.blk s0 H0 _ _ f0) (n := 5) (by rfl) (by rfl) (nm.glo 11) (l_cons (r_slc (vv 2) o_none (o_some r_int)) l_nil)) l_nil)))) (q_cons (q_ret (r_bc (n := 1) (b_all e.calm) (by rfl) (nm.free 8) bo_all (l_cons (r_lc e.calm e.nd (own := [("one", 4), ("other", 5)]) (i_zip (by rfl) (nm.free 20) (vv 3) (r_slc (vv 3) (o_some r_int) o_none)) (blkOk_by (by kernel_rfl)) (by decide) (fun s0 H0 c0 l0 f0 => (g_tup (e.blk s0 H0 _ _ f0).calm (g_cons (g_var (e.blk s0 H0 _ _ f0).nd (by rfl) (by first | exact Or.inl rfl | exact Or.inr rfl)) (g_cons (g_var (e.blk s0 H0 _ _ f0).nd (by rfl) (by first | exact Or.inl rfl | exact Or.inr rfl)) g_nil)) (asg_lenS (asg_lenS asg_len0)))) (fun s0 H0 c0 l0 f0 => st_nil) (fun s0 H0 c0 l0 f0 => (r_cmp (u_lt' (e.blk s0 H0 _ _ f0).xc) (nomark _) (vv 4) (vv 5)))) l_nil))) q_nil))))
/-- is_spot -/
theorem body42 (nm : Nm fa fns ex K mg) {f : Addr} {cdv : Value} {A : Around} {outer : List Env} {s : Shared} {H : Hp} {E : XK} (e : Ev (Cc P w K) Tdf (cxOf CXn P w K mg base N42 "is_spot" s42 f cdv A outer s H E).nox prg call k) : SXs (Cc P w K) (cxOf CXn P w K mg base N42 "is_spot" s42 f cdv A outer s H E).nox prg call W b42 v42 :=
  (q_cons (q_ret (r_and (x_call e (n := 2) (by rfl) (by rfl) (nm.glo 14) (l_cons (vv 1) (l_cons r_int l_nil))) (r_and (x_call e (n := 40) (by rfl) (by rfl) (nm.glo 58) (l_cons (vv 0) (l_cons (r_idx e.xc (vv 1) r_int) l_nil))) (r_one (x_call e (n := 41) (by rfl) (by rfl) (nm.glo 57) (l_cons (vv 0) (l_cons (r_idx e.xc (vv 1) r_int) l_nil))))))) q_nil)
/-- need_spot -/
theorem body43 (nm : Nm fa fns ex K mg) {f : Addr} {cdv : Value} {A : Around} {outer : List Env} {s : Shared} {H : Hp} {E : XK} (e : Ev (Cc P w K) Tdf (cxOf CXn P w K mg base N43 "need_spot" s43 f cdv A outer s H E).nox prg call k) : SXs (Cc P w K) (cxOf CXn P w K mg base N43 "need_spot" s43 f cdv A outer s H E).nox prg call W b43 v43 :=
  (q_cons (q_if (b_not (b_val (x_call e (n := 42) (by rfl) (by rfl) (nm.glo 59) (l_cons (vv 0) (l_cons (vv 1) l_nil))))) (q_cons q_raise q_nil) q_nil) (q_cons (q_ret (x_call e (n := 5) (by rfl) (by rfl) (nm.glo 11) (l_cons (vv 1) l_nil))) q_nil))
/-- need_deeds -/
theorem body44 (nm : Nm fa fns ex K mg) {f : Addr} {cdv : Value} {A : Around} {outer : List Env} {s : Shared} {H : Hp} {E : XK} (e : Ev (Cc P w K) Tdf (cxOf CXn P w K mg base N44 "need_deeds" s44 f cdv A outer s H E).nox prg call k) : SXs (Cc P w K) (cxOf CXn P w K mg base N44 "need_deeds" s44 f cdv A outer s H E).nox prg call W b44 v44 :=
  (q_cons (q_if (b_not (b_val (x_call e (n := 1) (by rfl) (by rfl) (nm.glo 6) (l_cons (vv 1) l_nil)))) (q_cons q_raise q_nil) q_nil) (q_cons (q_for e.own e.calm (i_enum (by rfl) (nm.free 60) (vv 1)) (g_tup e.calm (g_cons (g_var e.nd (by rfl) (by first | exact Or.inl rfl | exact Or.inr rfl)) (g_cons (g_var e.nd (by rfl) (by first | exact Or.inl rfl | exact Or.inr rfl)) g_nil)) (asg_lenS (asg_lenS asg_len0))) (q_cons (q_if (b_not (b_val (x_call e (n := 36) (by rfl) (by rfl) (nm.glo 61) (l_cons (vv 0) (l_cons (vv 3) l_nil))))) (q_cons q_raise q_nil) q_nil) q_nil)) (q_cons (q_ret (x_call e (n := 5) (by rfl) (by rfl) (nm.glo 11) (l_cons (vv 1) l_nil))) q_nil)))
/-- play -/
theorem body45 (nm : Nm fa fns ex K mg) {f : Addr} {cdv : Value} {A : Around} {outer : List Env} {s : Shared} {H : Hp} {E : XK} (e : Ev (Cc P w K) Tdf (cxOf CXn P w K mg base N45 "play" s45 f cdv A outer s H E).nox prg call k) : SXs (Cc P w K) (cxOf CXn P w K mg base N45 "play" s45 f cdv A outer s H E).nox prg call W b45 v45 :=
  (q_cons (q_ex (x_call e (n := 20) (by rfl) (by rfl) (nm.glo 42) (l_cons (vv 0) l_nil))) (q_cons (q_asg (x_call e (n := 44) (by rfl) (by rfl) (nm.glo 66) (l_cons (vv 0) (l_cons (vv 1) l_nil))) (g_var e.nd (by rfl) (by first | exact Or.inl rfl | exact Or.inr rfl))) (q_cons (q_asg (r_lst (l_cons (r_ife (b_isN (vv 2) r_non) (x_call e (n := 33) (by rfl) (by rfl) (nm.glo 64) (l_cons (vv 0) l_nil)) (x_call e (n := 43) (by rfl) (by rfl) (nm.glo 65) (l_cons (vv 0) (l_cons (vv 2) l_nil)))) l_nil)) (g_var e.nd (by rfl) (by first | exact Or.inl rfl | exact Or.inr rfl))) (q_cons (q_for e.own e.calm (i_enum (by rfl) (nm.free 60) (vv 3)) (g_tup e.calm (g_cons (g_var e.nd (by rfl) (by first | exact Or.inl rfl | exact Or.inr rfl)) (g_cons (g_var e.nd (by rfl) (by first | exact Or.inl rfl | exact Or.inr rfl)) g_nil)) (asg_lenS (asg_lenS asg_len0))) (q_cons (q_if (b_not (b_val (x_call e (n := 37) (by rfl) (by rfl) (nm.glo 63) (l_cons (vv 0) (l_cons (r_idx e.xc (vv 4) r_negc) (l_cons (vv 6) l_nil)))))) (q_cons q_raise q_nil) q_nil) (q_cons (q_ex (r_bm (m := 0) bm_append (vv 4) (l_cons (x_call e (n := 38) (by rfl) (by rfl) (nm.glo 62) (l_cons (vv 0) (l_cons (r_idx e.xc (vv 4) r_negc) (l_cons (vv 6) l_nil)))) l_nil))) q_nil))) (q_cons (q_ret (r_bt (n := 5) (b_tuple) (by rfl) (nm.free 4) bo_tuple (l_cons (vv 4) l_nil))) q_nil)))))
/-- _law_pen -/
theorem body46 (nm : Nm fa fns ex K mg) {f : Addr} {cdv : Value} {A : Around} {outer : List Env} {s : Shared} {H : Hp} {E : XK} (e : Ev (Cc P w K) Tdf (cxOf CXn P w K mg base N46 "_law_pen" s46 f cdv A outer s H E).nox prg call k) : SXs (Cc P w K) (cxOf CXn P w K mg base N46 "_law_pen" s46 f cdv A outer s H E).nox prg call W b46 v46 :=
  q_dead
/-- _law_draw -/
theorem body47 (nm : Nm fa fns ex K mg) {f : Addr} {cdv : Value} {A : Around} {outer : List Env} {s : Shared} {H : Hp} {E : XK} (e : Ev (Cc P w K) Tdf (cxOf CXn P w K mg base N47 "_law_draw" s47 f cdv A outer s H E).nox prg call k) : SXs (Cc P w K) (cxOf CXn P w K mg base N47 "_law_draw" s47 f cdv A outer s H E).nox prg call W b47 v47 :=
  q_dead
end
end
end VI.K
namespace VI.K
open PySem PySem.Spec PyProof.Rows L2 VI
noncomputable section
section
variable {k W : Nat} {call : Nat → U → VH → VR} {P : Program} {w : World} {K : PySem.W.Frag} {mg : Str → Option Value} {base : Heap}
/-- _law_pick -/
theorem body48 (nm : Nm fa fns ex K mg) {f : Addr} {cdv : Value} {A : Around} {outer : List Env} {s : Shared} {H : Hp} {E : XK} (e : Ev (Cc P w K) Tdf (cxOf CXn P w K mg base N48 "_law_pick" s48 f cdv A outer s H E).nox prg call k) : SXs (Cc P w K) (cxOf CXn P w K mg base N48 "_law_pick" s48 f cdv A outer s H E).nox prg call W b48 v48 :=
  q_dead
/-- _law_one -/
theorem body49 (nm : Nm fa fns ex K mg) {f : Addr} {cdv : Value} {A : Around} {outer : List Env} {s : Shared} {H : Hp} {E : XK} (e : Ev (Cc P w K) Tdf (cxOf CXn P w K mg base N49 "_law_one" s49 f cdv A outer s H E).nox prg call k) : SXs (Cc P w K) (cxOf CXn P w K mg base N49 "_law_one" s49 f cdv A outer s H E).nox prg call W b49 v49 :=
  (q_cons (q_setLc e.calm e.nd (by rfl) rfl (own := [("row", 4)]) (i_val (y0 := false) (vv 0)) (blkOk_by (by kernel_rfl)) (by decide) (fun s0 H0 c0 l0 f0 => (g_var (e.blk s0 H0 _ _ f0).nd (by rfl) (by first | exact Or.inl rfl | exact Or.inr rfl))) (fun s0 H0 c0 l0 f0 => st_nil) (fun s0 H0 c0 l0 f0 => (x_mk (e.blk s0 H0 _ _ f0) (cl := 0) (by rfl) (by rfl) (nm.glo 70) (l_cons (r_idx (e.blk s0 H0 _ _ f0).xc (vv 4) r_int) (l_cons (r_idx (e.blk s0 H0 _ _ f0).xc (vv 4) r_int) (l_cons (r_idx (e.blk s0 H0 _ _ f0).xc (vv 4) r_int) (l_cons (r_idx (e.blk s0 H0 _ _ f0).xc (vv 4) r_int) (l_cons (r_idx (e.blk s0 H0 _ _ f0).xc (vv 4) r_int) l_nil)))))))) (q_cons (q_asg (x_mk e (cl := 1) (by rfl) (by rfl) (nm.glo 69) (l_cons (r_str z30) (l_cons (r_vls (l_cons (r_str z29) (l_cons (r_str z39) l_nil))) (l_cons (r_vls (l_cons (r_str z38) (l_cons (r_str z37) l_nil))) (l_cons (r_vls (l_cons (r_str z36) (l_cons (r_str z35) l_nil))) (l_cons (r_vls (l_cons (r_tup (l_cons (r_str z2) (l_cons (r_str z32) (l_cons (r_str z31) l_nil)))) (l_cons r_non l_nil))) (l_cons (vv 3) l_nil))))))) (g_var e.nd (by rfl) (by first | exact Or.inl rfl | exact Or.inr rfl))) (q_cons (q_asg (x_mk e (cl := 3) (by rfl) (by rfl) (nm.glo 32) (l_cons (r_vls (l_cons (r_str z34) (l_cons (r_str z33) l_nil))) (l_cons (r_vls (l_cons (vv 5) l_nil)) (l_cons (r_vls (l_cons (x_mk e (cl := 2) (by rfl) (by rfl) (nm.glo 68) (l_cons (r_str z28) (l_cons (r_vls l_nil) (l_cons r_bl (l_cons (vv 1) l_nil))))) (l_cons (x_mk e (cl := 2) (by rfl) (by rfl) (nm.glo 68) (l_cons (r_str z32) (l_cons (r_vls (l_cons (r_str z31) l_nil)) (l_cons r_bl (l_cons (r_vls l_nil) l_nil))))) l_nil))) l_nil)))) (g_var e.nd (by rfl) (by first | exact Or.inl rfl | exact Or.inr rfl))) (q_cons (q_asg (r_tup (l_cons (r_str z2) (l_cons (r_str z30) (l_cons (r_str z29) l_nil)))) (g_var e.nd (by rfl) (by first | exact Or.inl rfl | exact Or.inr rfl))) (q_cons (q_ret (r_idx e.xc (x_callD (ds := [.non]) (dvs := [.non]) e (n := 45) (by rfl) (List.mem_cons_self ..) (fun _ _ => ⟨.non, _, rfl, rfl, rfl⟩) (by rfl) (by rfl) (nm.glo 67) (l_cons (vv 6) (l_cons (r_vls (l_cons (r_tup (l_cons (r_str z8) (l_cons (r_str z28) (l_cons (vv 7) (l_cons (vv 2) l_nil))))) (l_cons (r_tup (l_cons (r_str z26) (l_cons (vv 7) (l_cons (vv 2) l_nil)))) l_nil))) l_nil))) r_negc)) q_nil)))))
/-- law -/
theorem body50 (nm : Nm fa fns ex K mg) {f : Addr} {cdv : Value} {A : Around} {outer : List Env} {s : Shared} {H : Hp} {E : XK} (e : Ev (Cc P w K) Tdf (cxOf CXn P w K mg base N50 "law" s50 f cdv A outer s H E).nox prg call k) : SXs (Cc P w K) (cxOf CXn P w K mg base N50 "law" s50 f cdv A outer s H E).nox prg call W b50 v50 :=
  q_dead
/-- Rule.__init__ -/
theorem body51 (nm : Nm fa fns ex K mg) {f : Addr} {cdv : Value} {A : Around} {outer : List Env} {s : Shared} {H : Hp} {E : XK} (e : Ev (Cc P w K) Tdf (cxOf CXn P w K mg base N51 "Rule.__init__" s51 f cdv A outer s H E).nox prg call k) : SXs (Cc P w K) (cxOf CXn P w K mg base N51 "Rule.__init__" s51 f cdv A outer s H E).nox prg call W b51 v51 :=
  (q_cons (q_if (b_not (b_val (x_call e (n := 3) (by rfl) (by rfl) (nm.glo 12) (l_cons (vv 1) l_nil)))) (q_cons q_raise q_nil) q_nil) (q_cons (q_if (b_not (b_val (x_call e (n := 3) (by rfl) (by rfl) (nm.glo 12) (l_cons (vv 2) l_nil)))) (q_cons q_raise q_nil) q_nil) (q_cons (q_if (b_w (w_or (b_not (b_val (x_call e (n := 4) (by rfl) (by rfl) (nm.glo 31) (l_cons (vv 3) (l_cons r_int (l_cons (x_gint (by rfl) (nm.int 74)) l_nil)))))) (w_or1 (b_not (b_val (r_bc (n := 1) (b_all e.calm) (by rfl) (nm.free 8) bo_all (l_cons (r_lc e.calm e.nd (own := [("one", 6)]) (i_val (y0 := false) (vv 3)) (blkOk_by (by kernel_rfl)) (by decide) (fun s0 H0 c0 l0 f0 => (g_var (e.blk s0 H0 _ _ f0).nd (by rfl) (by first | exact Or.inl rfl | exact Or.inr rfl))) (fun s0 H0 c0 l0 f0 => st_nil) (fun s0 H0 c0 l0 f0 => (x_call (e.blk s0 H0 _ _ f0) (n := 15) (by rfl) (by rfl) (nm.glo 73) (l_cons (vv 6) l_nil)))) l_nil))))))) (q_cons q_raise q_nil) q_nil) (q_cons (q_if (b_w (w_or (b_not (b_val (x_call e (n := 4) (by rfl) (by rfl) (nm.glo 31) (l_cons (vv 4) (l_cons r_int (l_cons (x_gint (by rfl) (nm.int 72)) l_nil)))))) (w_or1 (b_not (b_val (r_bc (n := 1) (b_all e.calm) (by rfl) (nm.free 8) bo_all (l_cons (r_lc e.calm e.nd (own := [("one", 6)]) (i_val (y0 := false) (vv 4)) (blkOk_by (by kernel_rfl)) (by decide) (fun s0 H0 c0 l0 f0 => (g_var (e.blk s0 H0 _ _ f0).nd (by rfl) (by first | exact Or.inl rfl | exact Or.inr rfl))) (fun s0 H0 c0 l0 f0 => st_nil) (fun s0 H0 c0 l0 f0 => (x_call (e.blk s0 H0 _ _ f0) (n := 16) (by rfl) (by rfl) (nm.glo 71) (l_cons (vv 6) l_nil)))) l_nil))))))) (q_cons q_raise q_nil) q_nil) (q_cons (q_if (b_not (b_val (x_call e (n := 3) (by rfl) (by rfl) (nm.glo 12) (l_cons (vv 5) l_nil)))) (q_cons q_raise q_nil) q_nil) (q_cons (q_fld z21 (fl_state nm rfl) (vv 0) (vv 1)) (q_cons (q_fld z20 (fl_word nm rfl) (vv 0) (vv 2)) (q_cons (q_fld z10 (fl_whens nm rfl) (vv 0) (x_call e (n := 5) (by rfl) (by rfl) (nm.glo 11) (l_cons (vv 3) l_nil))) (q_cons (q_fld z11 (fl_acts nm rfl) (vv 0) (x_call e (n := 5) (by rfl) (by rfl) (nm.glo 11) (l_cons (vv 4) l_nil))) (q_cons (q_fld z22 (fl_later nm rfl) (vv 0) (vv 5)) q_nil))))))))))
/-- Rule.__eq__ -/
theorem body52 (nm : Nm fa fns ex K mg) {f : Addr} {cdv : Value} {A : Around} {outer : List Env} {s : Shared} {H : Hp} {E : XK} (e : Ev (Cc P w K) Tdf (cxOf CXn P w K mg base N52 "Rule.__eq__" s52 f cdv A outer s H E).nox prg call k) : SXs (Cc P w K) (cxOf CXn P w K mg base N52 "Rule.__eq__" s52 f cdv A outer s H E).nox prg call W b52 v52 :=
  q_dead
/-- Part.__init__ -/
theorem body53 (nm : Nm fa fns ex K mg) {f : Addr} {cdv : Value} {A : Around} {outer : List Env} {s : Shared} {H : Hp} {E : XK} (e : Ev (Cc P w K) Tdf (cxOf CXn P w K mg base N53 "Part.__init__" s53 f cdv A outer s H E).nox prg call k) : SXs (Cc P w K) (cxOf CXn P w K mg base N53 "Part.__init__" s53 f cdv A outer s H E).nox prg call W b53 v53 :=
  (q_cons (q_if (b_not (b_val (x_call e (n := 3) (by rfl) (by rfl) (nm.glo 12) (l_cons (vv 1) l_nil)))) (q_cons q_raise q_nil) q_nil) (q_cons (q_if (b_not (b_val (x_call e (n := 17) (by rfl) (by rfl) (nm.glo 78) (l_cons (vv 2) (l_cons r_int (l_cons (x_gint (by rfl) (nm.int 80)) l_nil)))))) (q_cons q_raise q_nil) q_nil) (q_cons (q_if (b_not (b_val (x_call e (n := 17) (by rfl) (by rfl) (nm.glo 78) (l_cons (vv 3) (l_cons r_int (l_cons (x_gint (by rfl) (nm.int 79)) l_nil)))))) (q_cons q_raise q_nil) q_nil) (q_cons (q_if (b_not (b_val (x_call e (n := 17) (by rfl) (by rfl) (nm.glo 78) (l_cons (vv 4) (l_cons r_int (l_cons (x_gint (by rfl) (nm.int 77)) l_nil)))))) (q_cons q_raise q_nil) q_nil) (q_cons (q_if (b_w (w_or (b_not (b_val (x_call e (n := 2) (by rfl) (by rfl) (nm.glo 14) (l_cons (vv 5) (l_cons (r_bc (n := 0) (b_len e.xc) (by rfl) (nm.free 5) bo_len (l_cons (vv 4) l_nil)) l_nil))))) (w_or1 (b_not (b_val (r_bc (n := 1) (b_all e.calm) (by rfl) (nm.free 8) bo_all (l_cons (r_lc e.calm e.nd (own := [("one", 7)]) (i_val (y0 := false) (vv 5)) (blkOk_by (by kernel_rfl)) (by decide) (fun s0 H0 c0 l0 f0 => (g_var (e.blk s0 H0 _ _ f0).nd (by rfl) (by first | exact Or.inl rfl | exact Or.inr rfl))) (fun s0 H0 c0 l0 f0 => st_nil) (fun s0 H0 c0 l0 f0 => (x_call (e.blk s0 H0 _ _ f0) (n := 8) (by rfl) (by rfl) (nm.glo 21) (l_cons (vv 7) l_nil)))) l_nil))))))) (q_cons q_raise q_nil) q_nil) (q_cons (q_if (b_w (w_or (b_not (b_val (x_call e (n := 4) (by rfl) (by rfl) (nm.glo 31) (l_cons (vv 6) (l_cons r_int (l_cons (x_gint (by rfl) (nm.int 76)) l_nil)))))) (w_or1 (b_not (b_val (r_bc (n := 1) (b_all e.calm) (by rfl) (nm.free 8) bo_all (l_cons (r_lc e.calm e.nd (own := [("one", 7)]) (i_val (y0 := false) (vv 6)) (blkOk_by (by kernel_rfl)) (by decide) (fun s0 H0 c0 l0 f0 => (g_var (e.blk s0 H0 _ _ f0).nd (by rfl) (by first | exact Or.inl rfl | exact Or.inr rfl))) (fun s0 H0 c0 l0 f0 => st_nil) (fun s0 H0 c0 l0 f0 => (r_isi (tab6 nm) (.own _) (vv 7) (pe_glob (v := .ref (He.ga K "Rule")) (by rfl) (nm.glo 70) rfl) (by rfl) (nm.free 1)))) l_nil))))))) (q_cons q_raise q_nil) q_nil) (q_cons (q_for e.own e.calm (i_enum (by rfl) (nm.free 60) (vv 6)) (g_tup e.calm (g_cons (g_var e.nd (by rfl) (by first | exact Or.inl rfl | exact Or.inr rfl)) (g_cons (g_var e.nd (by rfl) (by first | exact Or.inl rfl | exact Or.inr rfl)) g_nil)) (asg_lenS (asg_lenS asg_len0))) (q_cons (q_if (b_w (w_or (b_cmp (u_notIn e.xc) (by with_unfolding_all rfl) (r_fld z21 (fl_state nm rfl) (vv 9)) (vv 3)) (w_or (b_cmp (u_notIn e.xc) (by with_unfolding_all rfl) (r_fld z22 (fl_later nm rfl) (vv 9)) (vv 3)) (w_or1 (b_cmp (u_notIn e.xc) (by with_unfolding_all rfl) (r_fld z20 (fl_word nm rfl) (vv 9)) (vv 2)))))) (q_cons q_raise q_nil) q_nil) (q_cons (q_if (b_not (b_val (r_bc (n := 1) (b_all e.calm) (by rfl) (nm.free 8) bo_all (l_cons (r_lc e.calm e.nd (own := [("slot", 10)]) (i_val (y0 := false) (x_call e (n := 18) (by rfl) (by rfl) (nm.glo 75) (l_cons (vv 9) l_nil))) (blkOk_by (by kernel_rfl)) (by decide) (fun s0 H0 c0 l0 f0 => (g_var (e.blk s0 H0 _ _ f0).nd (by rfl) (by first | exact Or.inl rfl | exact Or.inr rfl))) (fun s0 H0 c0 l0 f0 => st_nil) (fun s0 H0 c0 l0 f0 => (r_cmp (u_in (e.blk s0 H0 _ _ f0).xc) (by with_unfolding_all rfl) (vv 10) (vv 4)))) l_nil)))) (q_cons q_raise q_nil) q_nil) q_nil))) (q_cons (q_fld z41 (fl_name nm rfl) (vv 0) (vv 1)) (q_cons (q_fld z40 (fl_words nm rfl) (vv 0) (r_bt (n := 5) (b_tuple) (by rfl) (nm.free 4) bo_tuple (l_cons (vv 2) l_nil))) (q_cons (q_fld z17 (fl_states nm rfl) (vv 0) (r_bt (n := 5) (b_tuple) (by rfl) (nm.free 4) bo_tuple (l_cons (vv 3) l_nil))) (q_cons (q_fld z18 (fl_slots nm rfl) (vv 0) (r_bt (n := 5) (b_tuple) (by rfl) (nm.free 4) bo_tuple (l_cons (vv 4) l_nil))) (q_cons (q_fld z16 (fl_begin nm rfl) (vv 0) (x_call e (n := 5) (by rfl) (by rfl) (nm.glo 11) (l_cons (vv 5) l_nil))) (q_cons (q_fld z19 (fl_rules nm rfl) (vv 0) (r_bt (n := 5) (b_tuple) (by rfl) (nm.free 4) bo_tuple (l_cons (vv 6) l_nil))) q_nil)))))))))))))
/-- Part.__eq__ -/
theorem body54 (nm : Nm fa fns ex K mg) {f : Addr} {cdv : Value} {A : Around} {outer : List Env} {s : Shared} {H : Hp} {E : XK} (e : Ev (Cc P w K) Tdf (cxOf CXn P w K mg base N54 "Part.__eq__" s54 f cdv A outer s H E).nox prg call k) : SXs (Cc P w K) (cxOf CXn P w K mg base N54 "Part.__eq__" s54 f cdv A outer s H E).nox prg call W b54 v54 :=
  q_dead
/-- Person.__init__ -/
theorem body55 (nm : Nm fa fns ex K mg) {f : Addr} {cdv : Value} {A : Around} {outer : List Env} {s : Shared} {H : Hp} {E : XK} (e : Ev (Cc P w K) Tdf (cxOf CXn P w K mg base N55 "Person.__init__" s55 f cdv A outer s H E).nox prg call k) : SXs (Cc P w K) (cxOf CXn P w K mg base N55 "Person.__init__" s55 f cdv A outer s H E).nox prg call W b55 v55 :=
  (q_cons (q_if (b_not (b_val (x_call e (n := 3) (by rfl) (by rfl) (nm.glo 12) (l_cons (vv 1) l_nil)))) (q_cons q_raise q_nil) q_nil) (q_cons (q_if (b_not (b_val (x_call e (n := 17) (by rfl) (by rfl) (nm.glo 78) (l_cons (vv 2) (l_cons r_int (l_cons (x_gint (by rfl) (nm.int 80)) l_nil)))))) (q_cons q_raise q_nil) q_nil) (q_cons (q_if (b_not (b_val (r_isi (tab0 nm) (.ty _) (vv 3) (pe_bltn (v := .ty "bool") (by rfl) (nm.free 0) bo_bool rfl) (by rfl) (nm.free 1)))) (q_cons q_raise q_nil) q_nil) (q_cons (q_if (b_w (w_or (b_not (b_val (x_call e (n := 4) (by rfl) (by rfl) (nm.glo 31) (l_cons (vv 4) (l_cons r_int (l_cons (x_gint (by rfl) (nm.int 82)) l_nil)))))) (w_or1 (b_not (b_val (r_bc (n := 1) (b_all e.calm) (by rfl) (nm.free 8) bo_all (l_cons (r_lc e.calm e.nd (own := [("one", 5)]) (i_val (y0 := false) (vv 4)) (blkOk_by (by kernel_rfl)) (by decide) (fun s0 H0 c0 l0 f0 => (g_var (e.blk s0 H0 _ _ f0).nd (by rfl) (by first | exact Or.inl rfl | exact Or.inr rfl))) (fun s0 H0 c0 l0 f0 => st_nil) (fun s0 H0 c0 l0 f0 => (r_or (x_call (e.blk s0 H0 _ _ f0) (n := 6) (by rfl) (by rfl) (nm.glo 17) (l_cons (vv 5) l_nil)) (r_one (x_call (e.blk s0 H0 _ _ f0) (n := 7) (by rfl) (by rfl) (nm.glo 16) (l_cons (vv 5) l_nil)))))) l_nil))))))) (q_cons q_raise q_nil) q_nil) (q_cons (q_if (b_not (b_val (x_call e (n := 12) (by rfl) (by rfl) (nm.glo 81) (l_cons (x_call e (n := 5) (by rfl) (by rfl) (nm.glo 11) (l_cons (vv 4) l_nil)) (l_cons (r_gf (f := 9) (by rfl) (nm.glo 19) (by rfl)) l_nil))))) (q_cons q_raise q_nil) q_nil) (q_cons (q_fld z41 (fl_name nm rfl) (vv 0) (vv 1)) (q_cons (q_fld z40 (fl_words nm rfl) (vv 0) (r_bt (n := 5) (b_tuple) (by rfl) (nm.free 4) bo_tuple (l_cons (vv 2) l_nil))) (q_cons (q_fld z42 (fl_is_friend nm rfl) (vv 0) (vv 3)) (q_cons (q_fld z14 (fl_holds nm rfl) (vv 0) (x_call e (n := 5) (by rfl) (by rfl) (nm.glo 11) (l_cons (vv 4) l_nil))) q_nil)))))))))
/-- Person.__eq__ -/
theorem body56 (nm : Nm fa fns ex K mg) {f : Addr} {cdv : Value} {A : Around} {outer : List Env} {s : Shared} {H : Hp} {E : XK} (e : Ev (Cc P w K) Tdf (cxOf CXn P w K mg base N56 "Person.__eq__" s56 f cdv A outer s H E).nox prg call k) : SXs (Cc P w K) (cxOf CXn P w K mg base N56 "Person.__eq__" s56 f cdv A outer s H E).nox prg call W b56 v56 :=
  q_dead
/-- World.__init__ -/
theorem body57 (nm : Nm fa fns ex K mg) {f : Addr} {cdv : Value} {A : Around} {outer : List Env} {s : Shared} {H : Hp} {E : XK} (e : Ev (Cc P w K) Tdf (cxOf CXn P w K mg base N57 "World.__init__" s57 f cdv A outer s H E).nox prg call k) : SXs (Cc P w K) (cxOf CXn P w K mg base N57 "World.__init__" s57 f cdv A outer s H E).nox prg call W b57 v57 :=
  (q_cons (q_if (b_w (w_or (b_not (b_val (x_call e (n := 17) (by rfl) (by rfl) (nm.glo 78) (l_cons (vv 1) (l_cons r_int (l_cons (x_gint (by rfl) (nm.int 86)) l_nil)))))) (w_or1 (b_ne e.xc (r_bt (n := 6) (b_list) (by rfl) (nm.free 3) bo_list (l_cons (vv 1) l_nil)) (r_bc (n := 3) (b_sorted e.xc) (by rfl) (nm.free 18) bo_sorted (l_cons (vv 1) l_nil)))))) (q_cons q_raise q_nil) q_nil) (q_cons (q_if (b_w (w_or (b_not (b_val (x_call e (n := 4) (by rfl) (by rfl) (nm.glo 31) (l_cons (vv 2) (l_cons r_int (l_cons (x_gint (by rfl) (nm.int 85)) l_nil)))))) (w_or1 (b_not (b_val (r_bc (n := 1) (b_all e.calm) (by rfl) (nm.free 8) bo_all (l_cons (r_lc e.calm e.nd (own := [("one", 4)]) (i_val (y0 := false) (vv 2)) (blkOk_by (by kernel_rfl)) (by decide) (fun s0 H0 c0 l0 f0 => (g_var (e.blk s0 H0 _ _ f0).nd (by rfl) (by first | exact Or.inl rfl | exact Or.inr rfl))) (fun s0 H0 c0 l0 f0 => st_nil) (fun s0 H0 c0 l0 f0 => (r_isi (tab8 nm) (.own _) (vv 4) (pe_glob (v := .ref (He.ga K "Part")) (by rfl) (nm.glo 69) rfl) (by rfl) (nm.free 1)))) l_nil))))))) (q_cons q_raise q_nil) q_nil) (q_cons (q_if (b_not (b_val (r_bc (n := 1) (b_all e.calm) (by rfl) (nm.free 8) bo_all (l_cons (r_lc e.calm e.nd (own := [("one", 4), ("other", 5)]) (i_zip (by rfl) (nm.free 20) (vv 2) (r_slc (vv 2) (o_some r_int) o_none)) (blkOk_by (by kernel_rfl)) (by decide) (fun s0 H0 c0 l0 f0 => (g_tup (e.blk s0 H0 _ _ f0).calm (g_cons (g_var (e.blk s0 H0 _ _ f0).nd (by rfl) (by first | exact Or.inl rfl | exact Or.inr rfl)) (g_cons (g_var (e.blk s0 H0 _ _ f0).nd (by rfl) (by first | exact Or.inl rfl | exact Or.inr rfl)) g_nil)) (asg_lenS (asg_lenS asg_len0)))) (fun s0 H0 c0 l0 f0 => st_nil) (fun s0 H0 c0 l0 f0 => (r_cmp (u_lt' (e.blk s0 H0 _ _ f0).xc) (nomark _) (r_fld z41 (fl_name nm rfl) (vv 4)) (r_fld z41 (fl_name nm rfl) (vv 5))))) l_nil)))) (q_cons q_raise q_nil) q_nil) (q_cons (q_if (b_w (w_or (b_not (b_val (x_call e (n := 4) (by rfl) (by rfl) (nm.glo 31) (l_cons (vv 3) (l_cons r_int (l_cons (x_gint (by rfl) (nm.int 84)) l_nil)))))) (w_or1 (b_not (b_val (r_bc (n := 1) (b_all e.calm) (by rfl) (nm.free 8) bo_all (l_cons (r_lc e.calm e.nd (own := [("one", 4)]) (i_val (y0 := false) (vv 3)) (blkOk_by (by kernel_rfl)) (by decide) (fun s0 H0 c0 l0 f0 => (g_var (e.blk s0 H0 _ _ f0).nd (by rfl) (by first | exact Or.inl rfl | exact Or.inr rfl))) (fun s0 H0 c0 l0 f0 => st_nil) (fun s0 H0 c0 l0 f0 => (r_isi (tab7 nm) (.own _) (vv 4) (pe_glob (v := .ref (He.ga K "Person")) (by rfl) (nm.glo 68) rfl) (by rfl) (nm.free 1)))) l_nil))))))) (q_cons q_raise q_nil) q_nil) (q_cons (q_if (b_not (b_val (r_bc (n := 1) (b_all e.calm) (by rfl) (nm.free 8) bo_all (l_cons (r_lc e.calm e.nd (own := [("one", 4), ("other", 5)]) (i_zip (by rfl) (nm.free 20) (vv 3) (r_slc (vv 3) (o_some r_int) o_none)) (blkOk_by (by kernel_rfl)) (by decide) (fun s0 H0 c0 l0 f0 => (g_tup (e.blk s0 H0 _ _ f0).calm (g_cons (g_var (e.blk s0 H0 _ _ f0).nd (by rfl) (by first | exact Or.inl rfl | exact Or.inr rfl)) (g_cons (g_var (e.blk s0 H0 _ _ f0).nd (by rfl) (by first | exact Or.inl rfl | exact Or.inr rfl)) g_nil)) (asg_lenS (asg_lenS asg_len0)))) (fun s0 H0 c0 l0 f0 => st_nil) (fun s0 H0 c0 l0 f0 => (r_cmp (u_lt' (e.blk s0 H0 _ _ f0).xc) (nomark _) (r_fld z41 (fl_name nm rfl) (vv 4)) (r_fld z41 (fl_name nm rfl) (vv 5))))) l_nil)))) (q_cons q_raise q_nil) q_nil) (q_cons (q_fld z44 (fl_marks nm rfl) (vv 0) (r_bt (n := 5) (b_tuple) (by rfl) (nm.free 4) bo_tuple (l_cons (vv 1) l_nil))) (q_cons (q_fld z15 (fl_parts nm rfl) (vv 0) (r_bt (n := 5) (b_tuple) (by rfl) (nm.free 4) bo_tuple (l_cons (vv 2) l_nil))) (q_cons (q_fld z13 (fl_people nm rfl) (vv 0) (r_bt (n := 5) (b_tuple) (by rfl) (nm.free 4) bo_tuple (l_cons (vv 3) l_nil))) (q_cons (q_fld z43 (fl_owners nm rfl) (vv 0) (r_dc e.xc (own := [("one", 4)]) (i_val (y0 := false) (r_vls (l_lim (l_star (r_fld z15 (fl_parts nm rfl) (vv 0)) (l_star (r_fld z13 (fl_people nm rfl) (vv 0)) l_nil))))) (blkOk_by (by kernel_rfl)) (by decide) (fun s0 H0 c0 l0 f0 => (g_var (e.blk s0 H0 _ _ f0).nd (by rfl) (by first | exact Or.inl rfl | exact Or.inr rfl))) (fun s0 H0 c0 l0 f0 => st_nil) (fun s0 H0 c0 l0 f0 => (r_fld z41 (fl_name nm rfl) (vv 4))) (fun s0 H0 c0 l0 f0 => (vv 4)))) (q_cons (q_if (b_ne e.xc (r_bc (n := 0) (b_len e.xc) (by rfl) (nm.free 5) bo_len (l_cons (r_fld z43 (fl_owners nm rfl) (vv 0)) l_nil)) (r_add (r_bc (n := 0) (b_len e.xc) (by rfl) (nm.free 5) bo_len (l_cons (r_fld z15 (fl_parts nm rfl) (vv 0)) l_nil)) (r_bc (n := 0) (b_len e.xc) (by rfl) (nm.free 5) bo_len (l_cons (r_fld z13 (fl_people nm rfl) (vv 0)) l_nil)))) (q_cons q_raise q_nil) q_nil) (q_cons (q_setLc3H e.calm e.nd (by rfl) rfl (own := [("part", 7), ("rule", 8), ("value", 9)]) (vs1 := [8, 9]) (vs2 := [9]) (i_val (y0 := false) (r_fld z15 (fl_parts nm rfl) (vv 0))) (blkOk_by (by kernel_rfl)) (by decide) (by decide) (by decide) (by decide) (by decide) (fun s0 H0 c0 l0 f0 => (g_var (e.blk s0 H0 _ _ f0).nd (by rfl) (by first | exact Or.inl rfl | exact Or.inr rfl))) (fun s0 H0 c0 l0 f0 => st_nil) (fun s0 H0 c0 l0 f0 => (i_val (y0 := false) (r_fld z19 (fl_rules nm rfl) (vv 7)))) (fun s0 H0 c0 l0 f0 => (g_var (e.blk s0 H0 _ _ f0).nd (by rfl) (by first | exact Or.inl rfl | exact Or.inr rfl))) (fun s0 H0 c0 l0 f0 => st_nil) (fun s0 H0 c0 l0 f0 => (i_val (y0 := false) (x_call (e.blk s0 H0 _ _ f0) (n := 19) (by rfl) (by rfl) (nm.glo 83) (l_cons (vv 8) l_nil)))) (fun s0 H0 c0 l0 f0 => (g_var (e.blk s0 H0 _ _ f0).nd (by rfl) (by first | exact Or.inl rfl | exact Or.inr rfl))) (fun s0 H0 c0 l0 f0 => st_nil) (fun s0 H0 c0 l0 f0 => (vv 9))) (q_cons (q_ex (r_bm (m := 1) bm_extend (vv 6) (l_cons (r_lc2 e.calm e.nd (own := [("part", 7), ("value", 9)]) (vs1 := [9]) (i_val (y0 := false) (r_fld z15 (fl_parts nm rfl) (vv 0))) (blkOk_by (by kernel_rfl)) (by decide) (by decide) (by decide) (fun s0 H0 c0 l0 f0 => (g_var (e.blk s0 H0 _ _ f0).nd (by rfl) (by first | exact Or.inl rfl | exact Or.inr rfl))) (fun s0 H0 c0 l0 f0 => st_nil) (fun s0 H0 c0 l0 f0 => (i_val (y0 := false) (r_fld z16 (fl_begin nm rfl) (vv 7)))) (fun s0 H0 c0 l0 f0 => (g_var (e.blk s0 H0 _ _ f0).nd (by rfl) (by first | exact Or.inl rfl | exact Or.inr rfl))) (fun s0 H0 c0 l0 f0 => (st_one (b_notN (vv 9) r_non))) (fun s0 H0 c0 l0 f0 => (vv 9))) l_nil))) (q_cons (q_ex (r_bm (m := 1) bm_extend (vv 6) (l_cons (r_lc2 e.calm e.nd (own := [("person", 10), ("value", 9)]) (vs1 := [9]) (i_val (y0 := false) (r_fld z13 (fl_people nm rfl) (vv 0))) (blkOk_by (by kernel_rfl)) (by decide) (by decide) (by decide) (fun s0 H0 c0 l0 f0 => (g_var (e.blk s0 H0 _ _ f0).nd (by rfl) (by first | exact Or.inl rfl | exact Or.inr rfl))) (fun s0 H0 c0 l0 f0 => st_nil) (fun s0 H0 c0 l0 f0 => (i_val (y0 := false) (r_fld z14 (fl_holds nm rfl) (vv 10)))) (fun s0 H0 c0 l0 f0 => (g_var (e.blk s0 H0 _ _ f0).nd (by rfl) (by first | exact Or.inl rfl | exact Or.inr rfl))) (fun s0 H0 c0 l0 f0 => st_nil) (fun s0 H0 c0 l0 f0 => (vv 9))) l_nil))) (q_cons (q_if (b_not (b_val (r_bc (n := 1) (b_all e.calm) (by rfl) (nm.free 8) bo_all (l_cons (r_lc e.calm e.nd (own := [("value", 9)]) (i_val (y0 := false) (vv 6)) (blkOk_by (by kernel_rfl)) (by decide) (fun s0 H0 c0 l0 f0 => (g_var (e.blk s0 H0 _ _ f0).nd (by rfl) (by first | exact Or.inl rfl | exact Or.inr rfl))) (fun s0 H0 c0 l0 f0 => st_nil) (fun s0 H0 c0 l0 f0 => (r_meth z12 (x_methOk (e.blk s0 H0 _ _ f0) (mt_has_value nm)) (vv 0) (l_cons (vv 9) l_nil)))) l_nil)))) (q_cons q_raise q_nil) q_nil) (q_cons (q_fld z23 (fl_spots nm rfl) (vv 0) (r_dc e.xc (own := [("at", 11), ("one", 4)]) (i_enum (by rfl) (nm.free 60) (r_fld z15 (fl_parts nm rfl) (vv 0))) (blkOk_by (by kernel_rfl)) (by decide) (fun s0 H0 c0 l0 f0 => (g_tup (e.blk s0 H0 _ _ f0).calm (g_cons (g_var (e.blk s0 H0 _ _ f0).nd (by rfl) (by first | exact Or.inl rfl | exact Or.inr rfl)) (g_cons (g_var (e.blk s0 H0 _ _ f0).nd (by rfl) (by first | exact Or.inl rfl | exact Or.inr rfl)) g_nil)) (asg_lenS (asg_lenS asg_len0)))) (fun s0 H0 c0 l0 f0 => st_nil) (fun s0 H0 c0 l0 f0 => (r_fld z41 (fl_name nm rfl) (vv 4))) (fun s0 H0 c0 l0 f0 => (vv 11)))) (q_cons (q_fld z24 (fl_seats nm rfl) (vv 0) (r_dc e.xc (own := [("at", 11), ("one", 4)]) (i_enum (by rfl) (nm.free 60) (r_fld z13 (fl_people nm rfl) (vv 0))) (blkOk_by (by kernel_rfl)) (by decide) (fun s0 H0 c0 l0 f0 => (g_tup (e.blk s0 H0 _ _ f0).calm (g_cons (g_var (e.blk s0 H0 _ _ f0).nd (by rfl) (by first | exact Or.inl rfl | exact Or.inr rfl)) (g_cons (g_var (e.blk s0 H0 _ _ f0).nd (by rfl) (by first | exact Or.inl rfl | exact Or.inr rfl)) g_nil)) (asg_lenS (asg_lenS asg_len0)))) (fun s0 H0 c0 l0 f0 => st_nil) (fun s0 H0 c0 l0 f0 => (r_fld z41 (fl_name nm rfl) (vv 4))) (fun s0 H0 c0 l0 f0 => (vv 11)))) q_nil))))))))))))))))
/-- World.has_value -/
theorem body58 (nm : Nm fa fns ex K mg) {f : Addr} {cdv : Value} {A : Around} {outer : List Env} {s : Shared} {H : Hp} {E : XK} (e : Ev (Cc P w K) Tdf (cxOf CXn P w K mg base N58 "World.has_value" s58 f cdv A outer s H E).nox prg call k) : SXs (Cc P w K) (cxOf CXn P w K mg base N58 "World.has_value" s58 f cdv A outer s H E).nox prg call W b58 v58 :=
  (q_cons (q_if (b_eq e.xc (r_idx e.xc (vv 1) r_int) (x_gstr (by rfl) (nm.str 15) z2)) (q_cons (q_ret (r_and (r_cmp (u_in e.xc) (by with_unfolding_all rfl) (r_idx e.xc (vv 1) r_int) (r_fld z43 (fl_owners nm rfl) (vv 0))) (r_one (r_cmp (u_in e.xc) (by with_unfolding_all rfl) (r_idx e.xc (vv 1) r_int) (r_fld z40 (fl_words nm rfl) (r_idx e.xc (r_fld z43 (fl_owners nm rfl) (vv 0)) (r_idx e.xc (vv 1) r_int))))))) q_nil) q_nil) (q_cons (q_ret (r_cmp (u_in e.xc) (by with_unfolding_all rfl) (r_idx e.xc (vv 1) r_int) (r_fld z44 (fl_marks nm rfl) (vv 0)))) q_nil))
/-- World.__eq__ -/
theorem body59 (nm : Nm fa fns ex K mg) {f : Addr} {cdv : Value} {A : Around} {outer : List Env} {s : Shared} {H : Hp} {E : XK} (e : Ev (Cc P w K) Tdf (cxOf CXn P w K mg base N59 "World.__eq__" s59 f cdv A outer s H E).nox prg call k) : SXs (Cc P w K) (cxOf CXn P w K mg base N59 "World.__eq__" s59 f cdv A outer s H E).nox prg call W b59 v59 :=
  q_dead
end
end
end VI.K
namespace VI.K
open PySem PySem.Spec PyProof.Rows L2 VI
noncomputable section
section
variable {k W d : Nat} {P : Program} {w : World} {K : PySem.W.Frag} {mg : Str → Option Value} {base : Heap}
theorem up0 (nm : Nm fa fns ex K mg) (lv : Lv (Cc P w K) Tdf P w K mg base prg (callF prg W d) k) : ∃ fd, FnOk P w K mg base CXn (k + 3) (He.fAd K d0.at_) fd ["value"] (spU (Cc P w K) 1 (callF prg W (d + 1) 0)) ∧ FunD K d0.name d0.qual a0 b0 s0 (d0.dvs K) (d0.kws K) (He.fAd K d0.at_) fd := by
  obtain ⟨fd, F⟩ := nm.c.def_ 0 (d := d0) rfl
  exact ⟨fd, fn_up (C := Cc P w K) (ps := ["value"]) F sc0 (i := 0) rfl rfl rfl rfl lv fun cdv A outer s H E e => body0 nm e, F⟩
theorem up1 (nm : Nm fa fns ex K mg) (lv : Lv (Cc P w K) Tdf P w K mg base prg (callF prg W d) k) : ∃ fd, FnOk P w K mg base CXn (k + 3) (He.fAd K d1.at_) fd ["value"] (spU (Cc P w K) 1 (callF prg W (d + 1) 1)) ∧ FunD K d1.name d1.qual a1 b1 s1 (d1.dvs K) (d1.kws K) (He.fAd K d1.at_) fd := by
  obtain ⟨fd, F⟩ := nm.c.def_ 1 (d := d1) rfl
  exact ⟨fd, fn_up (C := Cc P w K) (ps := ["value"]) F sc1 (i := 1) rfl rfl rfl rfl lv fun cdv A outer s H E e => body1 nm e, F⟩
theorem up2 (nm : Nm fa fns ex K mg) (lv : Lv (Cc P w K) Tdf P w K mg base prg (callF prg W d) k) : ∃ fd, FnOk P w K mg base CXn (k + 3) (He.fAd K d2.at_) fd ["value", "many"] (spU (Cc P w K) 2 (callF prg W (d + 1) 2)) ∧ FunD K d2.name d2.qual a2 b2 s2 (d2.dvs K) (d2.kws K) (He.fAd K d2.at_) fd := by
  obtain ⟨fd, F⟩ := nm.c.def_ 2 (d := d2) rfl
  exact ⟨fd, fn_up (C := Cc P w K) (ps := ["value", "many"]) F sc2 (i := 2) rfl rfl rfl rfl lv fun cdv A outer s H E e => body2 nm e, F⟩
theorem up3 (nm : Nm fa fns ex K mg) (lv : Lv (Cc P w K) Tdf P w K mg base prg (callF prg W d) k) : ∃ fd, FnOk P w K mg base CXn (k + 3) (He.fAd K d3.at_) fd ["value"] (spU (Cc P w K) 1 (callF prg W (d + 1) 3)) ∧ FunD K d3.name d3.qual a3 b3 s3 (d3.dvs K) (d3.kws K) (He.fAd K d3.at_) fd := by
  obtain ⟨fd, F⟩ := nm.c.def_ 3 (d := d3) rfl
  exact ⟨fd, fn_up (C := Cc P w K) (ps := ["value"]) F sc3 (i := 3) rfl rfl rfl rfl lv fun cdv A outer s H E e => body3 nm e, F⟩
theorem up4 (nm : Nm fa fns ex K mg) (lv : Lv (Cc P w K) Tdf P w K mg base prg (callF prg W d) k) : ∃ fd, FnOk P w K mg base CXn (k + 3) (He.fAd K d4.at_) fd ["value", "least", "most"] (spU (Cc P w K) 3 (callF prg W (d + 1) 4)) ∧ FunD K d4.name d4.qual a4 b4 s4 (d4.dvs K) (d4.kws K) (He.fAd K d4.at_) fd := by
  obtain ⟨fd, F⟩ := nm.c.def_ 4 (d := d4) rfl
  exact ⟨fd, fn_up (C := Cc P w K) (ps := ["value", "least", "most"]) F sc4 (i := 4) rfl rfl rfl rfl lv fun cdv A outer s H E e => body4 nm e, F⟩
theorem up5 (nm : Nm fa fns ex K mg) (lv : Lv (Cc P w K) Tdf P w K mg base prg (callF prg W d) k) : ∃ fd, FnOk P w K mg base CXn (k + 3) (He.fAd K d5.at_) fd ["value"] (spU (Cc P w K) 1 (callF prg W (d + 1) 5)) ∧ FunD K d5.name d5.qual a5 b5 s5 (d5.dvs K) (d5.kws K) (He.fAd K d5.at_) fd := by
  obtain ⟨fd, F⟩ := nm.c.def_ 5 (d := d5) rfl
  exact ⟨fd, fn_up (C := Cc P w K) (ps := ["value"]) F sc5 (i := 5) rfl rfl rfl rfl lv fun cdv A outer s H E e => body5 nm e, F⟩
theorem up6 (nm : Nm fa fns ex K mg) (lv : Lv (Cc P w K) Tdf P w K mg base prg (callF prg W d) k) : ∃ fd, FnOk P w K mg base CXn (k + 3) (He.fAd K d6.at_) fd ["value"] (spU (Cc P w K) 1 (callF prg W (d + 1) 6)) ∧ FunD K d6.name d6.qual a6 b6 s6 (d6.dvs K) (d6.kws K) (He.fAd K d6.at_) fd := by
  obtain ⟨fd, F⟩ := nm.c.def_ 6 (d := d6) rfl
  exact ⟨fd, fn_up (C := Cc P w K) (ps := ["value"]) F sc6 (i := 6) rfl rfl rfl rfl lv fun cdv A outer s H E e => body6 nm e, F⟩
theorem up7 (nm : Nm fa fns ex K mg) (lv : Lv (Cc P w K) Tdf P w K mg base prg (callF prg W d) k) : ∃ fd, FnOk P w K mg base CXn (k + 3) (He.fAd K d7.at_) fd ["value"] (spU (Cc P w K) 1 (callF prg W (d + 1) 7)) ∧ FunD K d7.name d7.qual a7 b7 s7 (d7.dvs K) (d7.kws K) (He.fAd K d7.at_) fd := by
  obtain ⟨fd, F⟩ := nm.c.def_ 7 (d := d7) rfl
  exact ⟨fd, fn_up (C := Cc P w K) (ps := ["value"]) F sc7 (i := 7) rfl rfl rfl rfl lv fun cdv A outer s H E e => body7 nm e, F⟩
theorem up8 (nm : Nm fa fns ex K mg) (lv : Lv (Cc P w K) Tdf P w K mg base prg (callF prg W d) k) : ∃ fd, FnOk P w K mg base CXn (k + 3) (He.fAd K d8.at_) fd ["value"] (spU (Cc P w K) 1 (callF prg W (d + 1) 8)) ∧ FunD K d8.name d8.qual a8 b8 s8 (d8.dvs K) (d8.kws K) (He.fAd K d8.at_) fd := by
  obtain ⟨fd, F⟩ := nm.c.def_ 8 (d := d8) rfl
  exact ⟨fd, fn_up (C := Cc P w K) (ps := ["value"]) F sc8 (i := 8) rfl rfl rfl rfl lv fun cdv A outer s H E e => body8 nm e, F⟩
theorem up9 (nm : Nm fa fns ex K mg) (lv : Lv (Cc P w K) Tdf P w K mg base prg (callF prg W d) k) : ∃ fd, FnOk P w K mg base CXn (k + 3) (He.fAd K d9.at_) fd ["value"] (spU (Cc P w K) 1 (callF prg W (d + 1) 9)) ∧ FunD K d9.name d9.qual a9 b9 s9 (d9.dvs K) (d9.kws K) (He.fAd K d9.at_) fd := by
  obtain ⟨fd, F⟩ := nm.c.def_ 9 (d := d9) rfl
  exact ⟨fd, fn_up (C := Cc P w K) (ps := ["value"]) F sc9 (i := 9) rfl rfl rfl rfl lv fun cdv A outer s H E e => body9 nm e, F⟩
theorem up10 (nm : Nm fa fns ex K mg) (lv : Lv (Cc P w K) Tdf P w K mg base prg (callF prg W d) k) : ∃ fd, FnOk P w K mg base CXn (k + 3) (He.fAd K d10.at_) fd ["values"] (spU (Cc P w K) 1 (callF prg W (d + 1) 10)) ∧ FunD K d10.name d10.qual a10 b10 s10 (d10.dvs K) (d10.kws K) (He.fAd K d10.at_) fd := by
  obtain ⟨fd, F⟩ := nm.c.def_ 10 (d := d10) rfl
  exact ⟨fd, fn_up (C := Cc P w K) (ps := ["values"]) F sc10 (i := 10) rfl rfl rfl rfl lv fun cdv A outer s H E e => body10 nm e, F⟩
theorem up11 (nm : Nm fa fns ex K mg) (lv : Lv (Cc P w K) Tdf P w K mg base prg (callF prg W d) k) : ∃ fd, FnOk P w K mg base CXn (k + 3) (He.fAd K d11.at_) fd ["message"] (spU (Cc P w K) 1 (callF prg W (d + 1) 11)) ∧ FunD K d11.name d11.qual a11 b11 s11 (d11.dvs K) (d11.kws K) (He.fAd K d11.at_) fd := by
  obtain ⟨fd, F⟩ := nm.c.def_ 11 (d := d11) rfl
  exact ⟨fd, fn_up (C := Cc P w K) (ps := ["message"]) F sc11 (i := 11) rfl rfl rfl rfl lv fun cdv A outer s H E e => body11 nm e, F⟩
theorem up12 (nm : Nm fa fns ex K mg) (lv : Lv (Cc P w K) Tdf P w K mg base prg (callF prg W d) k) : ∃ fd, FnOk P w K mg base CXn (k + 3) (He.fAd K d12.at_) fd ["values", "key"] (spU (Cc P w K) 2 (callF prg W (d + 1) 12)) ∧ FunD K d12.name d12.qual a12 b12 s12 (d12.dvs K) (d12.kws K) (He.fAd K d12.at_) fd := by
  obtain ⟨fd, F⟩ := nm.c.def_ 12 (d := d12) rfl
  exact ⟨fd, fn_up (C := Cc P w K) (ps := ["values", "key"]) F sc12 (i := 12) rfl rfl rfl rfl lv fun cdv A outer s H E e => body12 nm e, F⟩
theorem up13 (nm : Nm fa fns ex K mg) (lv : Lv (Cc P w K) Tdf P w K mg base prg (callF prg W d) k) : ∃ fd, FnOk P w K mg base CXn (k + 3) (He.fAd K d13.at_) fd ["value", "word"] (spU (Cc P w K) 2 (callF prg W (d + 1) 13)) ∧ FunD K d13.name d13.qual a13 b13 s13 (d13.dvs K) (d13.kws K) (He.fAd K d13.at_) fd := by
  obtain ⟨fd, F⟩ := nm.c.def_ 13 (d := d13) rfl
  exact ⟨fd, fn_up (C := Cc P w K) (ps := ["value", "word"]) F sc13 (i := 13) rfl rfl rfl rfl lv fun cdv A outer s H E e => body13 nm e, F⟩
theorem up14 (nm : Nm fa fns ex K mg) (lv : Lv (Cc P w K) Tdf P w K mg base prg (callF prg W d) k) : ∃ fd, FnOk P w K mg base CXn (k + 3) (He.fAd K d14.at_) fd ["value"] (spU (Cc P w K) 1 (callF prg W (d + 1) 14)) ∧ FunD K d14.name d14.qual a14 b14 s14 (d14.dvs K) (d14.kws K) (He.fAd K d14.at_) fd := by
  obtain ⟨fd, F⟩ := nm.c.def_ 14 (d := d14) rfl
  exact ⟨fd, fn_up (C := Cc P w K) (ps := ["value"]) F sc14 (i := 14) rfl rfl rfl rfl lv fun cdv A outer s H E e => body14 nm e, F⟩
theorem up15 (nm : Nm fa fns ex K mg) (lv : Lv (Cc P w K) Tdf P w K mg base prg (callF prg W d) k) : ∃ fd, FnOk P w K mg base CXn (k + 3) (He.fAd K d15.at_) fd ["value"] (spU (Cc P w K) 1 (callF prg W (d + 1) 15)) ∧ FunD K d15.name d15.qual a15 b15 s15 (d15.dvs K) (d15.kws K) (He.fAd K d15.at_) fd := by
  obtain ⟨fd, F⟩ := nm.c.def_ 15 (d := d15) rfl
  exact ⟨fd, fn_up (C := Cc P w K) (ps := ["value"]) F sc15 (i := 15) rfl rfl rfl rfl lv fun cdv A outer s H E e => body15 nm e, F⟩
theorem up16 (nm : Nm fa fns ex K mg) (lv : Lv (Cc P w K) Tdf P w K mg base prg (callF prg W d) k) : ∃ fd, FnOk P w K mg base CXn (k + 3) (He.fAd K d16.at_) fd ["value"] (spU (Cc P w K) 1 (callF prg W (d + 1) 16)) ∧ FunD K d16.name d16.qual a16 b16 s16 (d16.dvs K) (d16.kws K) (He.fAd K d16.at_) fd := by
  obtain ⟨fd, F⟩ := nm.c.def_ 16 (d := d16) rfl
  exact ⟨fd, fn_up (C := Cc P w K) (ps := ["value"]) F sc16 (i := 16) rfl rfl rfl rfl lv fun cdv A outer s H E e => body16 nm e, F⟩
theorem up17 (nm : Nm fa fns ex K mg) (lv : Lv (Cc P w K) Tdf P w K mg base prg (callF prg W d) k) : ∃ fd, FnOk P w K mg base CXn (k + 3) (He.fAd K d17.at_) fd ["value", "least", "most"] (spU (Cc P w K) 3 (callF prg W (d + 1) 17)) ∧ FunD K d17.name d17.qual a17 b17 s17 (d17.dvs K) (d17.kws K) (He.fAd K d17.at_) fd := by
  obtain ⟨fd, F⟩ := nm.c.def_ 17 (d := d17) rfl
  exact ⟨fd, fn_up (C := Cc P w K) (ps := ["value", "least", "most"]) F sc17 (i := 17) rfl rfl rfl rfl lv fun cdv A outer s H E e => body17 nm e, F⟩
theorem up18 (nm : Nm fa fns ex K mg) (lv : Lv (Cc P w K) Tdf P w K mg base prg (callF prg W d) k) : ∃ fd, FnOk P w K mg base CXn (k + 3) (He.fAd K d18.at_) fd ["rule"] (spU (Cc P w K) 1 (callF prg W (d + 1) 18)) ∧ FunD K d18.name d18.qual a18 b18 s18 (d18.dvs K) (d18.kws K) (He.fAd K d18.at_) fd := by
  obtain ⟨fd, F⟩ := nm.c.def_ 18 (d := d18) rfl
  exact ⟨fd, fn_up (C := Cc P w K) (ps := ["rule"]) F sc18 (i := 18) rfl rfl rfl rfl lv fun cdv A outer s H E e => body18 nm e, F⟩
theorem up19 (nm : Nm fa fns ex K mg) (lv : Lv (Cc P w K) Tdf P w K mg base prg (callF prg W d) k) : ∃ fd, FnOk P w K mg base CXn (k + 3) (He.fAd K d19.at_) fd ["rule"] (spU (Cc P w K) 1 (callF prg W (d + 1) 19)) ∧ FunD K d19.name d19.qual a19 b19 s19 (d19.dvs K) (d19.kws K) (He.fAd K d19.at_) fd := by
  obtain ⟨fd, F⟩ := nm.c.def_ 19 (d := d19) rfl
  exact ⟨fd, fn_up (C := Cc P w K) (ps := ["rule"]) F sc19 (i := 19) rfl rfl rfl rfl lv fun cdv A outer s H E e => body19 nm e, F⟩
theorem up20 (nm : Nm fa fns ex K mg) (lv : Lv (Cc P w K) Tdf P w K mg base prg (callF prg W d) k) : ∃ fd, FnOk P w K mg base CXn (k + 3) (He.fAd K d20.at_) fd ["value"] (spU (Cc P w K) 1 (callF prg W (d + 1) 20)) ∧ FunD K d20.name d20.qual a20 b20 s20 (d20.dvs K) (d20.kws K) (He.fAd K d20.at_) fd := by
  obtain ⟨fd, F⟩ := nm.c.def_ 20 (d := d20) rfl
  exact ⟨fd, fn_up (C := Cc P w K) (ps := ["value"]) F sc20 (i := 20) rfl rfl rfl rfl lv fun cdv A outer s H E e => body20 nm e, F⟩
theorem up21 (nm : Nm fa fns ex K mg) (lv : Lv (Cc P w K) Tdf P w K mg base prg (callF prg W d) k) : ∃ fd, FnOk P w K mg base CXn (k + 3) (He.fAd K d21.at_) fd ["world", "value"] (spU (Cc P w K) 2 (callF prg W (d + 1) 21)) ∧ FunD K d21.name d21.qual a21 b21 s21 (d21.dvs K) (d21.kws K) (He.fAd K d21.at_) fd := by
  obtain ⟨fd, F⟩ := nm.c.def_ 21 (d := d21) rfl
  exact ⟨fd, fn_up (C := Cc P w K) (ps := ["world", "value"]) F sc21 (i := 21) rfl rfl rfl rfl lv fun cdv A outer s H E e => body21 nm e, F⟩
theorem up22 (nm : Nm fa fns ex K mg) (lv : Lv (Cc P w K) Tdf P w K mg base prg (callF prg W d) k) : ∃ fd, FnOk P w K mg base CXn (k + 3) (He.fAd K d22.at_) fd ["world", "value"] (spU (Cc P w K) 2 (callF prg W (d + 1) 22)) ∧ FunD K d22.name d22.qual a22 b22 s22 (d22.dvs K) (d22.kws K) (He.fAd K d22.at_) fd := by
  obtain ⟨fd, F⟩ := nm.c.def_ 22 (d := d22) rfl
  exact ⟨fd, fn_up (C := Cc P w K) (ps := ["world", "value"]) F sc22 (i := 22) rfl rfl rfl rfl lv fun cdv A outer s H E e => body22 nm e, F⟩
theorem up23 (nm : Nm fa fns ex K mg) (lv : Lv (Cc P w K) Tdf P w K mg base prg (callF prg W d) k) : ∃ fd, FnOk P w K mg base CXn (k + 3) (He.fAd K d23.at_) fd ["world", "value"] (spU (Cc P w K) 2 (callF prg W (d + 1) 23)) ∧ FunD K d23.name d23.qual a23 b23 s23 (d23.dvs K) (d23.kws K) (He.fAd K d23.at_) fd := by
  obtain ⟨fd, F⟩ := nm.c.def_ 23 (d := d23) rfl
  exact ⟨fd, fn_up (C := Cc P w K) (ps := ["world", "value"]) F sc23 (i := 23) rfl rfl rfl rfl lv fun cdv A outer s H E e => body23 nm e, F⟩
theorem up24 (nm : Nm fa fns ex K mg) (lv : Lv (Cc P w K) Tdf P w K mg base prg (callF prg W d) k) : ∃ fd, FnOk P w K mg base CXn (k + 3) (He.fAd K d24.at_) fd ["value"] (spU (Cc P w K) 1 (callF prg W (d + 1) 24)) ∧ FunD K d24.name d24.qual a24 b24 s24 (d24.dvs K) (d24.kws K) (He.fAd K d24.at_) fd := by
  obtain ⟨fd, F⟩ := nm.c.def_ 24 (d := d24) rfl
  exact ⟨fd, fn_up (C := Cc P w K) (ps := ["value"]) F sc24 (i := 24) rfl rfl rfl rfl lv fun cdv A outer s H E e => body24 nm e, F⟩
theorem up25 (nm : Nm fa fns ex K mg) (lv : Lv (Cc P w K) Tdf P w K mg base prg (callF prg W d) k) : ∃ fd, FnOk P w K mg base CXn (k + 3) (He.fAd K d25.at_) fd ["world"] (spU (Cc P w K) 1 (callF prg W (d + 1) 25)) ∧ FunD K d25.name d25.qual a25 b25 s25 (d25.dvs K) (d25.kws K) (He.fAd K d25.at_) fd := by
  obtain ⟨fd, F⟩ := nm.c.def_ 25 (d := d25) rfl
  exact ⟨fd, fn_up (C := Cc P w K) (ps := ["world"]) F sc25 (i := 25) rfl rfl rfl rfl lv fun cdv A outer s H E e => body25 nm e, F⟩
theorem up26 (nm : Nm fa fns ex K mg) (lv : Lv (Cc P w K) Tdf P w K mg base prg (callF prg W d) k) : ∃ fd, FnOk P w K mg base CXn (k + 3) (He.fAd K d26.at_) fd ["term", "value", "part", "slots"] (spU (Cc P w K) 4 (callF prg W (d + 1) 26)) ∧ FunD K d26.name d26.qual a26 b26 s26 (d26.dvs K) (d26.kws K) (He.fAd K d26.at_) fd := by
  obtain ⟨fd, F⟩ := nm.c.def_ 26 (d := d26) rfl
  exact ⟨fd, fn_up (C := Cc P w K) (ps := ["term", "value", "part", "slots"]) F sc26 (i := 26) rfl rfl rfl rfl lv fun cdv A outer s H E e => body26 nm e, F⟩
theorem up27 (nm : Nm fa fns ex K mg) (lv : Lv (Cc P w K) Tdf P w K mg base prg (callF prg W d) k) : ∃ fd, FnOk P w K mg base CXn (k + 3) (He.fAd K d27.at_) fd ["when", "value", "part", "slots"] (spU (Cc P w K) 4 (callF prg W (d + 1) 27)) ∧ FunD K d27.name d27.qual a27 b27 s27 (d27.dvs K) (d27.kws K) (He.fAd K d27.at_) fd := by
  obtain ⟨fd, F⟩ := nm.c.def_ 27 (d := d27) rfl
  exact ⟨fd, fn_up (C := Cc P w K) (ps := ["when", "value", "part", "slots"]) F sc27 (i := 27) rfl rfl rfl rfl lv fun cdv A outer s H E e => body27 nm e, F⟩
theorem up28 (nm : Nm fa fns ex K mg) (lv : Lv (Cc P w K) Tdf P w K mg base prg (callF prg W d) k) : ∃ fd, FnOk P w K mg base CXn (k + 3) (He.fAd K d28.at_) fd ["part", "state", "slots", "word", "value"] (spU (Cc P w K) 5 (callF prg W (d + 1) 28)) ∧ FunD K d28.name d28.qual a28 b28 s28 (d28.dvs K) (d28.kws K) (He.fAd K d28.at_) fd := by
  obtain ⟨fd, F⟩ := nm.c.def_ 28 (d := d28) rfl
  exact ⟨fd, fn_up (C := Cc P w K) (ps := ["part", "state", "slots", "word", "value"]) F sc28 (i := 28) rfl rfl rfl rfl lv fun cdv A outer s H E e => body28 nm e, F⟩
theorem up29 (nm : Nm fa fns ex K mg) (lv : Lv (Cc P w K) Tdf P w K mg base prg (callF prg W d) k) : ∃ fd, FnOk P w K mg base CXn (k + 3) (He.fAd K d29.at_) fd ["world", "standing", "right", "value"] (spU (Cc P w K) 4 (callF prg W (d + 1) 29)) ∧ FunD K d29.name d29.qual a29 b29 s29 (d29.dvs K) (d29.kws K) (He.fAd K d29.at_) fd := by
  obtain ⟨fd, F⟩ := nm.c.def_ 29 (d := d29) rfl
  exact ⟨fd, fn_up (C := Cc P w K) (ps := ["world", "standing", "right", "value"]) F sc29 (i := 29) rfl rfl rfl rfl lv fun cdv A outer s H E e => body29 nm e, F⟩
theorem up30 (nm : Nm fa fns ex K mg) (lv : Lv (Cc P w K) Tdf P w K mg base prg (callF prg W d) k) : ∃ fd, FnOk P w K mg base CXn (k + 3) (He.fAd K d30.at_) fd ["world", "standing", "name"] (spU (Cc P w K) 3 (callF prg W (d + 1) 30)) ∧ FunD K d30.name d30.qual a30 b30 s30 (d30.dvs K) (d30.kws K) (He.fAd K d30.at_) fd := by
  obtain ⟨fd, F⟩ := nm.c.def_ 30 (d := d30) rfl
  exact ⟨fd, fn_up (C := Cc P w K) (ps := ["world", "standing", "name"]) F sc30 (i := 30) rfl rfl rfl rfl lv fun cdv A outer s H E e => body30 nm e, F⟩
theorem up31 (nm : Nm fa fns ex K mg) (lv : Lv (Cc P w K) Tdf P w K mg base prg (callF prg W d) k) : ∃ fd, FnOk P w K mg base CXn (k + 3) (He.fAd K d31.at_) fd ["air"] (spU (Cc P w K) 1 (callF prg W (d + 1) 31)) ∧ FunD K d31.name d31.qual a31 b31 s31 (d31.dvs K) (d31.kws K) (He.fAd K d31.at_) fd := by
  obtain ⟨fd, F⟩ := nm.c.def_ 31 (d := d31) rfl
  exact ⟨fd, fn_up (C := Cc P w K) (ps := ["air"]) F sc31 (i := 31) rfl rfl rfl rfl lv fun cdv A outer s H E e => body31 nm e, F⟩
theorem up32 (nm : Nm fa fns ex K mg) (lv : Lv (Cc P w K) Tdf P w K mg base prg (callF prg W d) k) : ∃ fd, FnOk P w K mg base CXn (k + 3) (He.fAd K d32.at_) fd ["rows"] (spU (Cc P w K) 1 (callF prg W (d + 1) 32)) ∧ FunD K d32.name d32.qual a32 b32 s32 (d32.dvs K) (d32.kws K) (He.fAd K d32.at_) fd := by
  obtain ⟨fd, F⟩ := nm.c.def_ 32 (d := d32) rfl
  exact ⟨fd, fn_up (C := Cc P w K) (ps := ["rows"]) F sc32 (i := 32) rfl rfl rfl rfl lv fun cdv A outer s H E e => body32 nm e, F⟩
theorem up33 (nm : Nm fa fns ex K mg) (lv : Lv (Cc P w K) Tdf P w K mg base prg (callF prg W d) k) : ∃ fd, FnOk P w K mg base CXn (k + 3) (He.fAd K d33.at_) fd ["world"] (spU (Cc P w K) 1 (callF prg W (d + 1) 33)) ∧ FunD K d33.name d33.qual a33 b33 s33 (d33.dvs K) (d33.kws K) (He.fAd K d33.at_) fd := by
  obtain ⟨fd, F⟩ := nm.c.def_ 33 (d := d33) rfl
  exact ⟨fd, fn_up (C := Cc P w K) (ps := ["world"]) F sc33 (i := 33) rfl rfl rfl rfl lv fun cdv A outer s H E e => body33 nm e, F⟩
theorem up34 (nm : Nm fa fns ex K mg) (lv : Lv (Cc P w K) Tdf P w K mg base prg (callF prg W d) k) : ∃ fd, FnOk P w K mg base CXn (k + 3) (He.fAd K d34.at_) fd ["air", "messages"] (spU (Cc P w K) 2 (callF prg W (d + 1) 34)) ∧ FunD K d34.name d34.qual a34 b34 s34 (d34.dvs K) (d34.kws K) (He.fAd K d34.at_) fd := by
  obtain ⟨fd, F⟩ := nm.c.def_ 34 (d := d34) rfl
  exact ⟨fd, fn_up (C := Cc P w K) (ps := ["air", "messages"]) F sc34 (i := 34) rfl rfl rfl rfl lv fun cdv A outer s H E e => body34 nm e, F⟩
theorem up35 (nm : Nm fa fns ex K mg) (lv : Lv (Cc P w K) Tdf P w K mg base prg (callF prg W d) k) : ∃ fd, FnOk P w K mg base CXn (k + 3) (He.fAd K d35.at_) fd ["air", "message"] (spU (Cc P w K) 2 (callF prg W (d + 1) 35)) ∧ FunD K d35.name d35.qual a35 b35 s35 (d35.dvs K) (d35.kws K) (He.fAd K d35.at_) fd := by
  obtain ⟨fd, F⟩ := nm.c.def_ 35 (d := d35) rfl
  exact ⟨fd, fn_up (C := Cc P w K) (ps := ["air", "message"]) F sc35 (i := 35) rfl rfl rfl rfl lv fun cdv A outer s H E e => body35 nm e, F⟩
theorem up36 (nm : Nm fa fns ex K mg) (lv : Lv (Cc P w K) Tdf P w K mg base prg (callF prg W d) k) : ∃ fd, FnOk P w K mg base CXn (k + 3) (He.fAd K d36.at_) fd ["world", "value"] (spU (Cc P w K) 2 (callF prg W (d + 1) 36)) ∧ FunD K d36.name d36.qual a36 b36 s36 (d36.dvs K) (d36.kws K) (He.fAd K d36.at_) fd := by
  obtain ⟨fd, F⟩ := nm.c.def_ 36 (d := d36) rfl
  exact ⟨fd, fn_up (C := Cc P w K) (ps := ["world", "value"]) F sc36 (i := 36) rfl rfl rfl rfl lv fun cdv A outer s H E e => body36 nm e, F⟩
theorem up37 (nm : Nm fa fns ex K mg) (lv : Lv (Cc P w K) Tdf P w K mg base prg (callF prg W d) k) : ∃ fd, FnOk P w K mg base CXn (k + 3) (He.fAd K d37.at_) fd ["world", "spot", "deed"] (spU (Cc P w K) 3 (callF prg W (d + 1) 37)) ∧ FunD K d37.name d37.qual a37 b37 s37 (d37.dvs K) (d37.kws K) (He.fAd K d37.at_) fd := by
  obtain ⟨fd, F⟩ := nm.c.def_ 37 (d := d37) rfl
  exact ⟨fd, fn_up (C := Cc P w K) (ps := ["world", "spot", "deed"]) F sc37 (i := 37) rfl rfl rfl rfl lv fun cdv A outer s H E e => body37 nm e, F⟩
theorem up38 (nm : Nm fa fns ex K mg) (lv : Lv (Cc P w K) Tdf P w K mg base prg (callF prg W d) k) : ∃ fd, FnOk P w K mg base CXn (k + 3) (He.fAd K d38.at_) fd ["world", "spot", "deed"] (spU (Cc P w K) 3 (callF prg W (d + 1) 38)) ∧ FunD K d38.name d38.qual a38 b38 s38 (d38.dvs K) (d38.kws K) (He.fAd K d38.at_) fd := by
  obtain ⟨fd, F⟩ := nm.c.def_ 38 (d := d38) rfl
  exact ⟨fd, fn_up (C := Cc P w K) (ps := ["world", "spot", "deed"]) F sc38 (i := 38) rfl rfl rfl rfl lv fun cdv A outer s H E e => body38 nm e, F⟩
theorem up39 (nm : Nm fa fns ex K mg) (lv : Lv (Cc P w K) Tdf P w K mg base prg (callF prg W d) k) : ∃ fd, FnOk P w K mg base CXn (k + 3) (He.fAd K d39.at_) fd ["world", "value"] (spU (Cc P w K) 2 (callF prg W (d + 1) 39)) ∧ FunD K d39.name d39.qual a39 b39 s39 (d39.dvs K) (d39.kws K) (He.fAd K d39.at_) fd := by
  obtain ⟨fd, F⟩ := nm.c.def_ 39 (d := d39) rfl
  exact ⟨fd, fn_up (C := Cc P w K) (ps := ["world", "value"]) F sc39 (i := 39) rfl rfl rfl rfl lv fun cdv A outer s H E e => body39 nm e, F⟩
theorem up40 (nm : Nm fa fns ex K mg) (lv : Lv (Cc P w K) Tdf P w K mg base prg (callF prg W d) k) : ∃ fd, FnOk P w K mg base CXn (k + 3) (He.fAd K d40.at_) fd ["world", "value"] (spU (Cc P w K) 2 (callF prg W (d + 1) 40)) ∧ FunD K d40.name d40.qual a40 b40 s40 (d40.dvs K) (d40.kws K) (He.fAd K d40.at_) fd := by
  obtain ⟨fd, F⟩ := nm.c.def_ 40 (d := d40) rfl
  exact ⟨fd, fn_up (C := Cc P w K) (ps := ["world", "value"]) F sc40 (i := 40) rfl rfl rfl rfl lv fun cdv A outer s H E e => body40 nm e, F⟩
theorem up41 (nm : Nm fa fns ex K mg) (lv : Lv (Cc P w K) Tdf P w K mg base prg (callF prg W d) k) : ∃ fd, FnOk P w K mg base CXn (k + 3) (He.fAd K d41.at_) fd ["world", "value"] (spU (Cc P w K) 2 (callF prg W (d + 1) 41)) ∧ FunD K d41.name d41.qual a41 b41 s41 (d41.dvs K) (d41.kws K) (He.fAd K d41.at_) fd := by
  obtain ⟨fd, F⟩ := nm.c.def_ 41 (d := d41) rfl
  exact ⟨fd, fn_up (C := Cc P w K) (ps := ["world", "value"]) F sc41 (i := 41) rfl rfl rfl rfl lv fun cdv A outer s H E e => body41 nm e, F⟩
theorem up42 (nm : Nm fa fns ex K mg) (lv : Lv (Cc P w K) Tdf P w K mg base prg (callF prg W d) k) : ∃ fd, FnOk P w K mg base CXn (k + 3) (He.fAd K d42.at_) fd ["world", "value"] (spU (Cc P w K) 2 (callF prg W (d + 1) 42)) ∧ FunD K d42.name d42.qual a42 b42 s42 (d42.dvs K) (d42.kws K) (He.fAd K d42.at_) fd := by
  obtain ⟨fd, F⟩ := nm.c.def_ 42 (d := d42) rfl
  exact ⟨fd, fn_up (C := Cc P w K) (ps := ["world", "value"]) F sc42 (i := 42) rfl rfl rfl rfl lv fun cdv A outer s H E e => body42 nm e, F⟩
theorem up43 (nm : Nm fa fns ex K mg) (lv : Lv (Cc P w K) Tdf P w K mg base prg (callF prg W d) k) : ∃ fd, FnOk P w K mg base CXn (k + 3) (He.fAd K d43.at_) fd ["world", "value"] (spU (Cc P w K) 2 (callF prg W (d + 1) 43)) ∧ FunD K d43.name d43.qual a43 b43 s43 (d43.dvs K) (d43.kws K) (He.fAd K d43.at_) fd := by
  obtain ⟨fd, F⟩ := nm.c.def_ 43 (d := d43) rfl
  exact ⟨fd, fn_up (C := Cc P w K) (ps := ["world", "value"]) F sc43 (i := 43) rfl rfl rfl rfl lv fun cdv A outer s H E e => body43 nm e, F⟩
theorem up44 (nm : Nm fa fns ex K mg) (lv : Lv (Cc P w K) Tdf P w K mg base prg (callF prg W d) k) : ∃ fd, FnOk P w K mg base CXn (k + 3) (He.fAd K d44.at_) fd ["world", "value"] (spU (Cc P w K) 2 (callF prg W (d + 1) 44)) ∧ FunD K d44.name d44.qual a44 b44 s44 (d44.dvs K) (d44.kws K) (He.fAd K d44.at_) fd := by
  obtain ⟨fd, F⟩ := nm.c.def_ 44 (d := d44) rfl
  exact ⟨fd, fn_up (C := Cc P w K) (ps := ["world", "value"]) F sc44 (i := 44) rfl rfl rfl rfl lv fun cdv A outer s H E e => body44 nm e, F⟩
theorem up45 (nm : Nm fa fns ex K mg) (lv : Lv (Cc P w K) Tdf P w K mg base prg (callF prg W d) k) : ∃ fd, FnOk P w K mg base CXn (k + 3) (He.fAd K d45.at_) fd ["world", "deeds", "spot"] (spU (Cc P w K) 3 (callF prg W (d + 1) 45)) ∧ FunD K d45.name d45.qual a45 b45 s45 (d45.dvs K) (d45.kws K) (He.fAd K d45.at_) fd := by
  obtain ⟨fd, F⟩ := nm.c.def_ 45 (d := d45) rfl
  exact ⟨fd, fn_up (C := Cc P w K) (ps := ["world", "deeds", "spot"]) F sc45 (i := 45) rfl rfl rfl rfl lv fun cdv A outer s H E e => body45 nm e, F⟩
theorem up46 (nm : Nm fa fns ex K mg) (lv : Lv (Cc P w K) Tdf P w K mg base prg (callF prg W d) k) : ∃ fd, FnOk P w K mg base CXn (k + 3) (He.fAd K d46.at_) fd ["script"] (spU (Cc P w K) 1 (callF prg W (d + 1) 46)) ∧ FunD K d46.name d46.qual a46 b46 s46 (d46.dvs K) (d46.kws K) (He.fAd K d46.at_) fd := by
  obtain ⟨fd, F⟩ := nm.c.def_ 46 (d := d46) rfl
  exact ⟨fd, fn_up (C := Cc P w K) (ps := ["script"]) F sc46 (i := 46) rfl rfl rfl rfl lv fun cdv A outer s H E e => body46 nm e, F⟩
theorem up47 (nm : Nm fa fns ex K mg) (lv : Lv (Cc P w K) Tdf P w K mg base prg (callF prg W d) k) : ∃ fd, FnOk P w K mg base CXn (k + 3) (He.fAd K d47.at_) fd ["pen", "many"] (spU (Cc P w K) 2 (callF prg W (d + 1) 47)) ∧ FunD K d47.name d47.qual a47 b47 s47 (d47.dvs K) (d47.kws K) (He.fAd K d47.at_) fd := by
  obtain ⟨fd, F⟩ := nm.c.def_ 47 (d := d47) rfl
  exact ⟨fd, fn_up (C := Cc P w K) (ps := ["pen", "many"]) F sc47 (i := 47) rfl rfl rfl rfl lv fun cdv A outer s H E e => body47 nm e, F⟩
theorem up48 (nm : Nm fa fns ex K mg) (lv : Lv (Cc P w K) Tdf P w K mg base prg (callF prg W d) k) : ∃ fd, FnOk P w K mg base CXn (k + 3) (He.fAd K d48.at_) fd ["pen", "some"] (spU (Cc P w K) 2 (callF prg W (d + 1) 48)) ∧ FunD K d48.name d48.qual a48 b48 s48 (d48.dvs K) (d48.kws K) (He.fAd K d48.at_) fd := by
  obtain ⟨fd, F⟩ := nm.c.def_ 48 (d := d48) rfl
  exact ⟨fd, fn_up (C := Cc P w K) (ps := ["pen", "some"]) F sc48 (i := 48) rfl rfl rfl rfl lv fun cdv A outer s H E e => body48 nm e, F⟩
theorem up49 (nm : Nm fa fns ex K mg) (lv : Lv (Cc P w K) Tdf P w K mg base prg (callF prg W d) k) : ∃ fd, FnOk P w K mg base CXn (k + 3) (He.fAd K d49.at_) fd ["rule_rows", "holds", "value"] (spU (Cc P w K) 3 (callF prg W (d + 1) 49)) ∧ FunD K d49.name d49.qual a49 b49 s49 (d49.dvs K) (d49.kws K) (He.fAd K d49.at_) fd := by
  obtain ⟨fd, F⟩ := nm.c.def_ 49 (d := d49) rfl
  exact ⟨fd, fn_up (C := Cc P w K) (ps := ["rule_rows", "holds", "value"]) F sc49 (i := 49) rfl rfl rfl rfl lv fun cdv A outer s H E e => body49 nm e, F⟩
theorem up50 (nm : Nm fa fns ex K mg) (lv : Lv (Cc P w K) Tdf P w K mg base prg (callF prg W d) k) : ∃ fd, FnOk P w K mg base CXn (k + 3) (He.fAd K d50.at_) fd ["script"] (spU (Cc P w K) 1 (callF prg W (d + 1) 50)) ∧ FunD K d50.name d50.qual a50 b50 s50 (d50.dvs K) (d50.kws K) (He.fAd K d50.at_) fd := by
  obtain ⟨fd, F⟩ := nm.c.def_ 50 (d := d50) rfl
  exact ⟨fd, fn_up (C := Cc P w K) (ps := ["script"]) F sc50 (i := 50) rfl rfl rfl rfl lv fun cdv A outer s H E e => body50 nm e, F⟩
theorem up51 (nm : Nm fa fns ex K mg) (lv : Lv (Cc P w K) Tdf P w K mg base prg (callF prg W d) k) : ∃ fd, FnOk P w K mg base CXn (k + 3) (He.fAd K d51.at_) fd ["self", "state", "word", "whens", "acts", "later"] (spU (Cc P w K) 6 (callF prg W (d + 1) 51)) ∧ FunD K d51.name d51.qual a51 b51 s51 (d51.dvs K) (d51.kws K) (He.fAd K d51.at_) fd := by
  obtain ⟨fd, F⟩ := nm.c.def_ 51 (d := d51) rfl
  exact ⟨fd, fn_up (C := Cc P w K) (ps := ["self", "state", "word", "whens", "acts", "later"]) F sc51 (i := 51) rfl rfl rfl rfl lv fun cdv A outer s H E e => body51 nm e, F⟩
theorem up52 (nm : Nm fa fns ex K mg) (lv : Lv (Cc P w K) Tdf P w K mg base prg (callF prg W d) k) : ∃ fd, FnOk P w K mg base CXn (k + 3) (He.fAd K d52.at_) fd ["self", "other"] (spU (Cc P w K) 2 (callF prg W (d + 1) 52)) ∧ FunD K d52.name d52.qual a52 b52 s52 (d52.dvs K) (d52.kws K) (He.fAd K d52.at_) fd := by
  obtain ⟨fd, F⟩ := nm.c.def_ 52 (d := d52) rfl
  exact ⟨fd, fn_up (C := Cc P w K) (ps := ["self", "other"]) F sc52 (i := 52) rfl rfl rfl rfl lv fun cdv A outer s H E e => body52 nm e, F⟩
theorem up53 (nm : Nm fa fns ex K mg) (lv : Lv (Cc P w K) Tdf P w K mg base prg (callF prg W d) k) : ∃ fd, FnOk P w K mg base CXn (k + 3) (He.fAd K d53.at_) fd ["self", "name", "words", "states", "slots", "begin", "rules"] (spU (Cc P w K) 7 (callF prg W (d + 1) 53)) ∧ FunD K d53.name d53.qual a53 b53 s53 (d53.dvs K) (d53.kws K) (He.fAd K d53.at_) fd := by
  obtain ⟨fd, F⟩ := nm.c.def_ 53 (d := d53) rfl
  exact ⟨fd, fn_up (C := Cc P w K) (ps := ["self", "name", "words", "states", "slots", "begin", "rules"]) F sc53 (i := 53) rfl rfl rfl rfl lv fun cdv A outer s H E e => body53 nm e, F⟩
theorem up54 (nm : Nm fa fns ex K mg) (lv : Lv (Cc P w K) Tdf P w K mg base prg (callF prg W d) k) : ∃ fd, FnOk P w K mg base CXn (k + 3) (He.fAd K d54.at_) fd ["self", "other"] (spU (Cc P w K) 2 (callF prg W (d + 1) 54)) ∧ FunD K d54.name d54.qual a54 b54 s54 (d54.dvs K) (d54.kws K) (He.fAd K d54.at_) fd := by
  obtain ⟨fd, F⟩ := nm.c.def_ 54 (d := d54) rfl
  exact ⟨fd, fn_up (C := Cc P w K) (ps := ["self", "other"]) F sc54 (i := 54) rfl rfl rfl rfl lv fun cdv A outer s H E e => body54 nm e, F⟩
theorem up55 (nm : Nm fa fns ex K mg) (lv : Lv (Cc P w K) Tdf P w K mg base prg (callF prg W d) k) : ∃ fd, FnOk P w K mg base CXn (k + 3) (He.fAd K d55.at_) fd ["self", "name", "words", "is_friend", "holds"] (spU (Cc P w K) 5 (callF prg W (d + 1) 55)) ∧ FunD K d55.name d55.qual a55 b55 s55 (d55.dvs K) (d55.kws K) (He.fAd K d55.at_) fd := by
  obtain ⟨fd, F⟩ := nm.c.def_ 55 (d := d55) rfl
  exact ⟨fd, fn_up (C := Cc P w K) (ps := ["self", "name", "words", "is_friend", "holds"]) F sc55 (i := 55) rfl rfl rfl rfl lv fun cdv A outer s H E e => body55 nm e, F⟩
theorem up56 (nm : Nm fa fns ex K mg) (lv : Lv (Cc P w K) Tdf P w K mg base prg (callF prg W d) k) : ∃ fd, FnOk P w K mg base CXn (k + 3) (He.fAd K d56.at_) fd ["self", "other"] (spU (Cc P w K) 2 (callF prg W (d + 1) 56)) ∧ FunD K d56.name d56.qual a56 b56 s56 (d56.dvs K) (d56.kws K) (He.fAd K d56.at_) fd := by
  obtain ⟨fd, F⟩ := nm.c.def_ 56 (d := d56) rfl
  exact ⟨fd, fn_up (C := Cc P w K) (ps := ["self", "other"]) F sc56 (i := 56) rfl rfl rfl rfl lv fun cdv A outer s H E e => body56 nm e, F⟩
theorem up57 (nm : Nm fa fns ex K mg) (lv : Lv (Cc P w K) Tdf P w K mg base prg (callF prg W d) k) : ∃ fd, FnOk P w K mg base CXn (k + 3) (He.fAd K d57.at_) fd ["self", "marks", "parts", "people"] (spU (Cc P w K) 4 (callF prg W (d + 1) 57)) ∧ FunD K d57.name d57.qual a57 b57 s57 (d57.dvs K) (d57.kws K) (He.fAd K d57.at_) fd := by
  obtain ⟨fd, F⟩ := nm.c.def_ 57 (d := d57) rfl
  exact ⟨fd, fn_up (C := Cc P w K) (ps := ["self", "marks", "parts", "people"]) F sc57 (i := 57) rfl rfl rfl rfl lv fun cdv A outer s H E e => body57 nm e, F⟩
theorem up58 (nm : Nm fa fns ex K mg) (lv : Lv (Cc P w K) Tdf P w K mg base prg (callF prg W d) k) : ∃ fd, FnOk P w K mg base CXn (k + 3) (He.fAd K d58.at_) fd ["self", "value"] (spU (Cc P w K) 2 (callF prg W (d + 1) 58)) ∧ FunD K d58.name d58.qual a58 b58 s58 (d58.dvs K) (d58.kws K) (He.fAd K d58.at_) fd := by
  obtain ⟨fd, F⟩ := nm.c.def_ 58 (d := d58) rfl
  exact ⟨fd, fn_up (C := Cc P w K) (ps := ["self", "value"]) F sc58 (i := 58) rfl rfl rfl rfl lv fun cdv A outer s H E e => body58 nm e, F⟩
theorem up59 (nm : Nm fa fns ex K mg) (lv : Lv (Cc P w K) Tdf P w K mg base prg (callF prg W d) k) : ∃ fd, FnOk P w K mg base CXn (k + 3) (He.fAd K d59.at_) fd ["self", "other"] (spU (Cc P w K) 2 (callF prg W (d + 1) 59)) ∧ FunD K d59.name d59.qual a59 b59 s59 (d59.dvs K) (d59.kws K) (He.fAd K d59.at_) fd := by
  obtain ⟨fd, F⟩ := nm.c.def_ 59 (d := d59) rfl
  exact ⟨fd, fn_up (C := Cc P w K) (ps := ["self", "other"]) F sc59 (i := 59) rfl rfl rfl rfl lv fun cdv A outer s H E e => body59 nm e, F⟩
theorem bd0 {fd : FuncData} {f : Addr} (F : FunD K d0.name d0.qual a0 b0 s0 (d0.dvs K) (d0.kws K) f fd) : Binds K fd ["value"] [] := FunD.bindsN F fun _ _ _ _ _ _ us hl => match us, hl with | [_], _ => rfl
theorem bd1 {fd : FuncData} {f : Addr} (F : FunD K d1.name d1.qual a1 b1 s1 (d1.dvs K) (d1.kws K) f fd) : Binds K fd ["value"] [] := FunD.bindsN F fun _ _ _ _ _ _ us hl => match us, hl with | [_], _ => rfl
theorem bd2 {fd : FuncData} {f : Addr} (F : FunD K d2.name d2.qual a2 b2 s2 (d2.dvs K) (d2.kws K) f fd) : Binds K fd ["value", "many"] [] := FunD.bindsN F fun _ _ _ _ _ _ us hl => match us, hl with | [_, _], _ => rfl
theorem bd3 {fd : FuncData} {f : Addr} (F : FunD K d3.name d3.qual a3 b3 s3 (d3.dvs K) (d3.kws K) f fd) : Binds K fd ["value"] [] := FunD.bindsN F fun _ _ _ _ _ _ us hl => match us, hl with | [_], _ => rfl
theorem bd4 {fd : FuncData} {f : Addr} (F : FunD K d4.name d4.qual a4 b4 s4 (d4.dvs K) (d4.kws K) f fd) : Binds K fd ["value", "least", "most"] [] := FunD.bindsN F fun _ _ _ _ _ _ us hl => match us, hl with | [_, _, _], _ => rfl
theorem bd5 {fd : FuncData} {f : Addr} (F : FunD K d5.name d5.qual a5 b5 s5 (d5.dvs K) (d5.kws K) f fd) : Binds K fd ["value"] [] := FunD.bindsN F fun _ _ _ _ _ _ us hl => match us, hl with | [_], _ => rfl
theorem bd6 {fd : FuncData} {f : Addr} (F : FunD K d6.name d6.qual a6 b6 s6 (d6.dvs K) (d6.kws K) f fd) : Binds K fd ["value"] [] := FunD.bindsN F fun _ _ _ _ _ _ us hl => match us, hl with | [_], _ => rfl
theorem bd7 {fd : FuncData} {f : Addr} (F : FunD K d7.name d7.qual a7 b7 s7 (d7.dvs K) (d7.kws K) f fd) : Binds K fd ["value"] [] := FunD.bindsN F fun _ _ _ _ _ _ us hl => match us, hl with | [_], _ => rfl
theorem bd8 {fd : FuncData} {f : Addr} (F : FunD K d8.name d8.qual a8 b8 s8 (d8.dvs K) (d8.kws K) f fd) : Binds K fd ["value"] [] := FunD.bindsN F fun _ _ _ _ _ _ us hl => match us, hl with | [_], _ => rfl
theorem bd9 {fd : FuncData} {f : Addr} (F : FunD K d9.name d9.qual a9 b9 s9 (d9.dvs K) (d9.kws K) f fd) : Binds K fd ["value"] [] := FunD.bindsN F fun _ _ _ _ _ _ us hl => match us, hl with | [_], _ => rfl
theorem bd10 {fd : FuncData} {f : Addr} (F : FunD K d10.name d10.qual a10 b10 s10 (d10.dvs K) (d10.kws K) f fd) : Binds K fd ["values"] [] := FunD.bindsN F fun _ _ _ _ _ _ us hl => match us, hl with | [_], _ => rfl
theorem bd11 {fd : FuncData} {f : Addr} (F : FunD K d11.name d11.qual a11 b11 s11 (d11.dvs K) (d11.kws K) f fd) : Binds K fd ["message"] [] := FunD.bindsN F fun _ _ _ _ _ _ us hl => match us, hl with | [_], _ => rfl
theorem bd12 {fd : FuncData} {f : Addr} (F : FunD K d12.name d12.qual a12 b12 s12 (d12.dvs K) (d12.kws K) f fd) : Binds K fd ["values", "key"] [] := FunD.bindsN F fun _ _ _ _ _ _ us hl => match us, hl with | [_, _], _ => rfl
theorem bd13 {fd : FuncData} {f : Addr} (F : FunD K d13.name d13.qual a13 b13 s13 (d13.dvs K) (d13.kws K) f fd) : Binds K fd ["value", "word"] [] := FunD.bindsN F fun _ _ _ _ _ _ us hl => match us, hl with | [_, _], _ => rfl
theorem bd14 {fd : FuncData} {f : Addr} (F : FunD K d14.name d14.qual a14 b14 s14 (d14.dvs K) (d14.kws K) f fd) : Binds K fd ["value"] [] := FunD.bindsN F fun _ _ _ _ _ _ us hl => match us, hl with | [_], _ => rfl
theorem bd15 {fd : FuncData} {f : Addr} (F : FunD K d15.name d15.qual a15 b15 s15 (d15.dvs K) (d15.kws K) f fd) : Binds K fd ["value"] [] := FunD.bindsN F fun _ _ _ _ _ _ us hl => match us, hl with | [_], _ => rfl
theorem bd16 {fd : FuncData} {f : Addr} (F : FunD K d16.name d16.qual a16 b16 s16 (d16.dvs K) (d16.kws K) f fd) : Binds K fd ["value"] [] := FunD.bindsN F fun _ _ _ _ _ _ us hl => match us, hl with | [_], _ => rfl
theorem bd17 {fd : FuncData} {f : Addr} (F : FunD K d17.name d17.qual a17 b17 s17 (d17.dvs K) (d17.kws K) f fd) : Binds K fd ["value", "least", "most"] [] := FunD.bindsN F fun _ _ _ _ _ _ us hl => match us, hl with | [_, _, _], _ => rfl
theorem bd18 {fd : FuncData} {f : Addr} (F : FunD K d18.name d18.qual a18 b18 s18 (d18.dvs K) (d18.kws K) f fd) : Binds K fd ["rule"] [] := FunD.bindsN F fun _ _ _ _ _ _ us hl => match us, hl with | [_], _ => rfl
theorem bd19 {fd : FuncData} {f : Addr} (F : FunD K d19.name d19.qual a19 b19 s19 (d19.dvs K) (d19.kws K) f fd) : Binds K fd ["rule"] [] := FunD.bindsN F fun _ _ _ _ _ _ us hl => match us, hl with | [_], _ => rfl
theorem bd20 {fd : FuncData} {f : Addr} (F : FunD K d20.name d20.qual a20 b20 s20 (d20.dvs K) (d20.kws K) f fd) : Binds K fd ["value"] [] := FunD.bindsN F fun _ _ _ _ _ _ us hl => match us, hl with | [_], _ => rfl
theorem bd21 {fd : FuncData} {f : Addr} (F : FunD K d21.name d21.qual a21 b21 s21 (d21.dvs K) (d21.kws K) f fd) : Binds K fd ["world", "value"] [] := FunD.bindsN F fun _ _ _ _ _ _ us hl => match us, hl with | [_, _], _ => rfl
theorem bd22 {fd : FuncData} {f : Addr} (F : FunD K d22.name d22.qual a22 b22 s22 (d22.dvs K) (d22.kws K) f fd) : Binds K fd ["world", "value"] [] := FunD.bindsN F fun _ _ _ _ _ _ us hl => match us, hl with | [_, _], _ => rfl
theorem bd23 {fd : FuncData} {f : Addr} (F : FunD K d23.name d23.qual a23 b23 s23 (d23.dvs K) (d23.kws K) f fd) : Binds K fd ["world", "value"] [] := FunD.bindsN F fun _ _ _ _ _ _ us hl => match us, hl with | [_, _], _ => rfl
theorem bd24 {fd : FuncData} {f : Addr} (F : FunD K d24.name d24.qual a24 b24 s24 (d24.dvs K) (d24.kws K) f fd) : Binds K fd ["value"] [] := FunD.bindsN F fun _ _ _ _ _ _ us hl => match us, hl with | [_], _ => rfl
theorem bd25 {fd : FuncData} {f : Addr} (F : FunD K d25.name d25.qual a25 b25 s25 (d25.dvs K) (d25.kws K) f fd) : Binds K fd ["world"] [] := FunD.bindsN F fun _ _ _ _ _ _ us hl => match us, hl with | [_], _ => rfl
theorem bd26 {fd : FuncData} {f : Addr} (F : FunD K d26.name d26.qual a26 b26 s26 (d26.dvs K) (d26.kws K) f fd) : Binds K fd ["term", "value", "part", "slots"] [] := FunD.bindsN F fun _ _ _ _ _ _ us hl => match us, hl with | [_, _, _, _], _ => rfl
theorem bd27 {fd : FuncData} {f : Addr} (F : FunD K d27.name d27.qual a27 b27 s27 (d27.dvs K) (d27.kws K) f fd) : Binds K fd ["when", "value", "part", "slots"] [] := FunD.bindsN F fun _ _ _ _ _ _ us hl => match us, hl with | [_, _, _, _], _ => rfl
theorem bd28 {fd : FuncData} {f : Addr} (F : FunD K d28.name d28.qual a28 b28 s28 (d28.dvs K) (d28.kws K) f fd) : Binds K fd ["part", "state", "slots", "word", "value"] [] := FunD.bindsN F fun _ _ _ _ _ _ us hl => match us, hl with | [_, _, _, _, _], _ => rfl
theorem bd29 {fd : FuncData} {f : Addr} (F : FunD K d29.name d29.qual a29 b29 s29 (d29.dvs K) (d29.kws K) f fd) : Binds K fd ["world", "standing", "right", "value"] [] := FunD.bindsN F fun _ _ _ _ _ _ us hl => match us, hl with | [_, _, _, _], _ => rfl
theorem bd30 {fd : FuncData} {f : Addr} (F : FunD K d30.name d30.qual a30 b30 s30 (d30.dvs K) (d30.kws K) f fd) : Binds K fd ["world", "standing", "name"] [] := FunD.bindsN F fun _ _ _ _ _ _ us hl => match us, hl with | [_, _, _], _ => rfl
theorem bd31 {fd : FuncData} {f : Addr} (F : FunD K d31.name d31.qual a31 b31 s31 (d31.dvs K) (d31.kws K) f fd) : Binds K fd ["air"] [] := FunD.bindsN F fun _ _ _ _ _ _ us hl => match us, hl with | [_], _ => rfl
theorem bd32 {fd : FuncData} {f : Addr} (F : FunD K d32.name d32.qual a32 b32 s32 (d32.dvs K) (d32.kws K) f fd) : Binds K fd ["rows"] [] := FunD.bindsN F fun _ _ _ _ _ _ us hl => match us, hl with | [_], _ => rfl
theorem bd33 {fd : FuncData} {f : Addr} (F : FunD K d33.name d33.qual a33 b33 s33 (d33.dvs K) (d33.kws K) f fd) : Binds K fd ["world"] [] := FunD.bindsN F fun _ _ _ _ _ _ us hl => match us, hl with | [_], _ => rfl
theorem bd34 {fd : FuncData} {f : Addr} (F : FunD K d34.name d34.qual a34 b34 s34 (d34.dvs K) (d34.kws K) f fd) : Binds K fd ["air", "messages"] [] := FunD.bindsN F fun _ _ _ _ _ _ us hl => match us, hl with | [_, _], _ => rfl
theorem bd35 {fd : FuncData} {f : Addr} (F : FunD K d35.name d35.qual a35 b35 s35 (d35.dvs K) (d35.kws K) f fd) : Binds K fd ["air", "message"] [] := FunD.bindsN F fun _ _ _ _ _ _ us hl => match us, hl with | [_, _], _ => rfl
theorem bd36 {fd : FuncData} {f : Addr} (F : FunD K d36.name d36.qual a36 b36 s36 (d36.dvs K) (d36.kws K) f fd) : Binds K fd ["world", "value"] [] := FunD.bindsN F fun _ _ _ _ _ _ us hl => match us, hl with | [_, _], _ => rfl
theorem bd37 {fd : FuncData} {f : Addr} (F : FunD K d37.name d37.qual a37 b37 s37 (d37.dvs K) (d37.kws K) f fd) : Binds K fd ["world", "spot", "deed"] [] := FunD.bindsN F fun _ _ _ _ _ _ us hl => match us, hl with | [_, _, _], _ => rfl
theorem bd38 {fd : FuncData} {f : Addr} (F : FunD K d38.name d38.qual a38 b38 s38 (d38.dvs K) (d38.kws K) f fd) : Binds K fd ["world", "spot", "deed"] [] := FunD.bindsN F fun _ _ _ _ _ _ us hl => match us, hl with | [_, _, _], _ => rfl
theorem bd39 {fd : FuncData} {f : Addr} (F : FunD K d39.name d39.qual a39 b39 s39 (d39.dvs K) (d39.kws K) f fd) : Binds K fd ["world", "value"] [] := FunD.bindsN F fun _ _ _ _ _ _ us hl => match us, hl with | [_, _], _ => rfl
theorem bd40 {fd : FuncData} {f : Addr} (F : FunD K d40.name d40.qual a40 b40 s40 (d40.dvs K) (d40.kws K) f fd) : Binds K fd ["world", "value"] [] := FunD.bindsN F fun _ _ _ _ _ _ us hl => match us, hl with | [_, _], _ => rfl
theorem bd41 {fd : FuncData} {f : Addr} (F : FunD K d41.name d41.qual a41 b41 s41 (d41.dvs K) (d41.kws K) f fd) : Binds K fd ["world", "value"] [] := FunD.bindsN F fun _ _ _ _ _ _ us hl => match us, hl with | [_, _], _ => rfl
theorem bd42 {fd : FuncData} {f : Addr} (F : FunD K d42.name d42.qual a42 b42 s42 (d42.dvs K) (d42.kws K) f fd) : Binds K fd ["world", "value"] [] := FunD.bindsN F fun _ _ _ _ _ _ us hl => match us, hl with | [_, _], _ => rfl
theorem bd43 {fd : FuncData} {f : Addr} (F : FunD K d43.name d43.qual a43 b43 s43 (d43.dvs K) (d43.kws K) f fd) : Binds K fd ["world", "value"] [] := FunD.bindsN F fun _ _ _ _ _ _ us hl => match us, hl with | [_, _], _ => rfl
theorem bd44 {fd : FuncData} {f : Addr} (F : FunD K d44.name d44.qual a44 b44 s44 (d44.dvs K) (d44.kws K) f fd) : Binds K fd ["world", "value"] [] := FunD.bindsN F fun _ _ _ _ _ _ us hl => match us, hl with | [_, _], _ => rfl
theorem bd45_0 {fd : FuncData} {f : Addr} (F : FunD K d45.name d45.qual a45 b45 s45 (d45.dvs K) (d45.kws K) f fd) : ∃ ds, Vals ((d45.dvs K).drop 0) ds ∧ Binds K fd ["world", "deeds", "spot"] ds := F.binds1 2 0 (by intro z; cases z) rfl fun T kV doc pm an cdv ct us its h1 h2 => match us, its, h1, h2 with | [_, _], [_], _, _ => ⟨_, rfl, rfl⟩
theorem bd45_1 {fd : FuncData} {f : Addr} (F : FunD K d45.name d45.qual a45 b45 s45 (d45.dvs K) (d45.kws K) f fd) : ∃ ds, Vals ((d45.dvs K).drop 1) ds ∧ Binds K fd ["world", "deeds", "spot"] ds := F.binds1 3 1 (by intro z; cases z) rfl fun T kV doc pm an cdv ct us its h1 h2 => match us, its, h1, h2 with | [_, _, _], [_], _, _ => ⟨_, rfl, rfl⟩
theorem bd46 {fd : FuncData} {f : Addr} (F : FunD K d46.name d46.qual a46 b46 s46 (d46.dvs K) (d46.kws K) f fd) : Binds K fd ["script"] [] := FunD.bindsN F fun _ _ _ _ _ _ us hl => match us, hl with | [_], _ => rfl
theorem bd47 {fd : FuncData} {f : Addr} (F : FunD K d47.name d47.qual a47 b47 s47 (d47.dvs K) (d47.kws K) f fd) : Binds K fd ["pen", "many"] [] := FunD.bindsN F fun _ _ _ _ _ _ us hl => match us, hl with | [_, _], _ => rfl
theorem bd48 {fd : FuncData} {f : Addr} (F : FunD K d48.name d48.qual a48 b48 s48 (d48.dvs K) (d48.kws K) f fd) : Binds K fd ["pen", "some"] [] := FunD.bindsN F fun _ _ _ _ _ _ us hl => match us, hl with | [_, _], _ => rfl
theorem bd49 {fd : FuncData} {f : Addr} (F : FunD K d49.name d49.qual a49 b49 s49 (d49.dvs K) (d49.kws K) f fd) : Binds K fd ["rule_rows", "holds", "value"] [] := FunD.bindsN F fun _ _ _ _ _ _ us hl => match us, hl with | [_, _, _], _ => rfl
theorem bd50 {fd : FuncData} {f : Addr} (F : FunD K d50.name d50.qual a50 b50 s50 (d50.dvs K) (d50.kws K) f fd) : Binds K fd ["script"] [] := FunD.bindsN F fun _ _ _ _ _ _ us hl => match us, hl with | [_], _ => rfl
theorem bd51 {fd : FuncData} {f : Addr} (F : FunD K d51.name d51.qual a51 b51 s51 (d51.dvs K) (d51.kws K) f fd) : Binds K fd ["self", "state", "word", "whens", "acts", "later"] [] := FunD.bindsN F fun _ _ _ _ _ _ us hl => match us, hl with | [_, _, _, _, _, _], _ => rfl
theorem bd52 {fd : FuncData} {f : Addr} (F : FunD K d52.name d52.qual a52 b52 s52 (d52.dvs K) (d52.kws K) f fd) : Binds K fd ["self", "other"] [] := FunD.bindsN F fun _ _ _ _ _ _ us hl => match us, hl with | [_, _], _ => rfl
theorem bd53 {fd : FuncData} {f : Addr} (F : FunD K d53.name d53.qual a53 b53 s53 (d53.dvs K) (d53.kws K) f fd) : Binds K fd ["self", "name", "words", "states", "slots", "begin", "rules"] [] := FunD.bindsN F fun _ _ _ _ _ _ us hl => match us, hl with | [_, _, _, _, _, _, _], _ => rfl
theorem bd54 {fd : FuncData} {f : Addr} (F : FunD K d54.name d54.qual a54 b54 s54 (d54.dvs K) (d54.kws K) f fd) : Binds K fd ["self", "other"] [] := FunD.bindsN F fun _ _ _ _ _ _ us hl => match us, hl with | [_, _], _ => rfl
theorem bd55 {fd : FuncData} {f : Addr} (F : FunD K d55.name d55.qual a55 b55 s55 (d55.dvs K) (d55.kws K) f fd) : Binds K fd ["self", "name", "words", "is_friend", "holds"] [] := FunD.bindsN F fun _ _ _ _ _ _ us hl => match us, hl with | [_, _, _, _, _], _ => rfl
theorem bd56 {fd : FuncData} {f : Addr} (F : FunD K d56.name d56.qual a56 b56 s56 (d56.dvs K) (d56.kws K) f fd) : Binds K fd ["self", "other"] [] := FunD.bindsN F fun _ _ _ _ _ _ us hl => match us, hl with | [_, _], _ => rfl
theorem bd57 {fd : FuncData} {f : Addr} (F : FunD K d57.name d57.qual a57 b57 s57 (d57.dvs K) (d57.kws K) f fd) : Binds K fd ["self", "marks", "parts", "people"] [] := FunD.bindsN F fun _ _ _ _ _ _ us hl => match us, hl with | [_, _, _, _], _ => rfl
theorem bd58 {fd : FuncData} {f : Addr} (F : FunD K d58.name d58.qual a58 b58 s58 (d58.dvs K) (d58.kws K) f fd) : Binds K fd ["self", "value"] [] := FunD.bindsN F fun _ _ _ _ _ _ us hl => match us, hl with | [_, _], _ => rfl
theorem bd59 {fd : FuncData} {f : Addr} (F : FunD K d59.name d59.qual a59 b59 s59 (d59.dvs K) (d59.kws K) f fd) : Binds K fd ["self", "other"] [] := FunD.bindsN F fun _ _ _ _ _ _ us hl => match us, hl with | [_, _], _ => rfl
end
end
end VI.K
namespace VI.K
open PySem PySem.Spec PyProof.Rows L2 VI
noncomputable section
theorem dv_ne {T : List (Nat × List V)} {i : Nat} {dvs : List V} (h : dvs = [] ∨ (i, dvs) ∈ T) (hn : ∀ q ∈ T, q.1 ≠ i) : dvs = [] := h.resolve_right fun z => hn _ z rfl
section
variable {k W d : Nat} {P : Program} {w : World} {K : PySem.W.Frag} {mg : Str → Option Value} {base : Heap} {dvs : List V} {g : U → VH → VR}
theorem fo0 (hd : dvs = [] ∨ (0, dvs) ∈ Tdf) (ok : ∃ fd, FnOk P w K mg base CXn k (He.fAd K d0.at_) fd ["value"] (spU (Cc P w K) 1 g) ∧ FunD K d0.name d0.qual a0 b0 s0 (d0.dvs K) (d0.kws K) (He.fAd K d0.at_) fd) (hl : ∀ s h u h', g s h = .one u h' → s.len = 1) :
    ∃ fd ps n ds, FnOk P w K mg base CXn k (He.fAd K d0.at_) fd ps (spU (Cc P w K) n g) ∧ Vals dvs ds ∧ Binds K fd ps ds ∧ ∀ s h u h', g s h = .one u h' → s.len = n := by
  obtain ⟨fd, F, D⟩ := ok
  cases dv_ne hd (by decide)
  exact ⟨fd, _, _, [], F, .nil, bd0 D, hl⟩
theorem fo1 (hd : dvs = [] ∨ (1, dvs) ∈ Tdf) (ok : ∃ fd, FnOk P w K mg base CXn k (He.fAd K d1.at_) fd ["value"] (spU (Cc P w K) 1 g) ∧ FunD K d1.name d1.qual a1 b1 s1 (d1.dvs K) (d1.kws K) (He.fAd K d1.at_) fd) (hl : ∀ s h u h', g s h = .one u h' → s.len = 1) :
    ∃ fd ps n ds, FnOk P w K mg base CXn k (He.fAd K d1.at_) fd ps (spU (Cc P w K) n g) ∧ Vals dvs ds ∧ Binds K fd ps ds ∧ ∀ s h u h', g s h = .one u h' → s.len = n := by
  obtain ⟨fd, F, D⟩ := ok
  cases dv_ne hd (by decide)
  exact ⟨fd, _, _, [], F, .nil, bd1 D, hl⟩
theorem fo2 (hd : dvs = [] ∨ (2, dvs) ∈ Tdf) (ok : ∃ fd, FnOk P w K mg base CXn k (He.fAd K d2.at_) fd ["value", "many"] (spU (Cc P w K) 2 g) ∧ FunD K d2.name d2.qual a2 b2 s2 (d2.dvs K) (d2.kws K) (He.fAd K d2.at_) fd) (hl : ∀ s h u h', g s h = .one u h' → s.len = 2) :
    ∃ fd ps n ds, FnOk P w K mg base CXn k (He.fAd K d2.at_) fd ps (spU (Cc P w K) n g) ∧ Vals dvs ds ∧ Binds K fd ps ds ∧ ∀ s h u h', g s h = .one u h' → s.len = n := by
  obtain ⟨fd, F, D⟩ := ok
  cases dv_ne hd (by decide)
  exact ⟨fd, _, _, [], F, .nil, bd2 D, hl⟩
theorem fo3 (hd : dvs = [] ∨ (3, dvs) ∈ Tdf) (ok : ∃ fd, FnOk P w K mg base CXn k (He.fAd K d3.at_) fd ["value"] (spU (Cc P w K) 1 g) ∧ FunD K d3.name d3.qual a3 b3 s3 (d3.dvs K) (d3.kws K) (He.fAd K d3.at_) fd) (hl : ∀ s h u h', g s h = .one u h' → s.len = 1) :
    ∃ fd ps n ds, FnOk P w K mg base CXn k (He.fAd K d3.at_) fd ps (spU (Cc P w K) n g) ∧ Vals dvs ds ∧ Binds K fd ps ds ∧ ∀ s h u h', g s h = .one u h' → s.len = n := by
  obtain ⟨fd, F, D⟩ := ok
  cases dv_ne hd (by decide)
  exact ⟨fd, _, _, [], F, .nil, bd3 D, hl⟩
theorem fo4 (hd : dvs = [] ∨ (4, dvs) ∈ Tdf) (ok : ∃ fd, FnOk P w K mg base CXn k (He.fAd K d4.at_) fd ["value", "least", "most"] (spU (Cc P w K) 3 g) ∧ FunD K d4.name d4.qual a4 b4 s4 (d4.dvs K) (d4.kws K) (He.fAd K d4.at_) fd) (hl : ∀ s h u h', g s h = .one u h' → s.len = 3) :
    ∃ fd ps n ds, FnOk P w K mg base CXn k (He.fAd K d4.at_) fd ps (spU (Cc P w K) n g) ∧ Vals dvs ds ∧ Binds K fd ps ds ∧ ∀ s h u h', g s h = .one u h' → s.len = n := by
  obtain ⟨fd, F, D⟩ := ok
  cases dv_ne hd (by decide)
  exact ⟨fd, _, _, [], F, .nil, bd4 D, hl⟩
theorem fo5 (hd : dvs = [] ∨ (5, dvs) ∈ Tdf) (ok : ∃ fd, FnOk P w K mg base CXn k (He.fAd K d5.at_) fd ["value"] (spU (Cc P w K) 1 g) ∧ FunD K d5.name d5.qual a5 b5 s5 (d5.dvs K) (d5.kws K) (He.fAd K d5.at_) fd) (hl : ∀ s h u h', g s h = .one u h' → s.len = 1) :
    ∃ fd ps n ds, FnOk P w K mg base CXn k (He.fAd K d5.at_) fd ps (spU (Cc P w K) n g) ∧ Vals dvs ds ∧ Binds K fd ps ds ∧ ∀ s h u h', g s h = .one u h' → s.len = n := by
  obtain ⟨fd, F, D⟩ := ok
  cases dv_ne hd (by decide)
  exact ⟨fd, _, _, [], F, .nil, bd5 D, hl⟩
theorem fo6 (hd : dvs = [] ∨ (6, dvs) ∈ Tdf) (ok : ∃ fd, FnOk P w K mg base CXn k (He.fAd K d6.at_) fd ["value"] (spU (Cc P w K) 1 g) ∧ FunD K d6.name d6.qual a6 b6 s6 (d6.dvs K) (d6.kws K) (He.fAd K d6.at_) fd) (hl : ∀ s h u h', g s h = .one u h' → s.len = 1) :
    ∃ fd ps n ds, FnOk P w K mg base CXn k (He.fAd K d6.at_) fd ps (spU (Cc P w K) n g) ∧ Vals dvs ds ∧ Binds K fd ps ds ∧ ∀ s h u h', g s h = .one u h' → s.len = n := by
  obtain ⟨fd, F, D⟩ := ok
  cases dv_ne hd (by decide)
  exact ⟨fd, _, _, [], F, .nil, bd6 D, hl⟩
theorem fo7 (hd : dvs = [] ∨ (7, dvs) ∈ Tdf) (ok : ∃ fd, FnOk P w K mg base CXn k (He.fAd K d7.at_) fd ["value"] (spU (Cc P w K) 1 g) ∧ FunD K d7.name d7.qual a7 b7 s7 (d7.dvs K) (d7.kws K) (He.fAd K d7.at_) fd) (hl : ∀ s h u h', g s h = .one u h' → s.len = 1) :
    ∃ fd ps n ds, FnOk P w K mg base CXn k (He.fAd K d7.at_) fd ps (spU (Cc P w K) n g) ∧ Vals dvs ds ∧ Binds K fd ps ds ∧ ∀ s h u h', g s h = .one u h' → s.len = n := by
  obtain ⟨fd, F, D⟩ := ok
  cases dv_ne hd (by decide)
  exact ⟨fd, _, _, [], F, .nil, bd7 D, hl⟩
theorem fo8 (hd : dvs = [] ∨ (8, dvs) ∈ Tdf) (ok : ∃ fd, FnOk P w K mg base CXn k (He.fAd K d8.at_) fd ["value"] (spU (Cc P w K) 1 g) ∧ FunD K d8.name d8.qual a8 b8 s8 (d8.dvs K) (d8.kws K) (He.fAd K d8.at_) fd) (hl : ∀ s h u h', g s h = .one u h' → s.len = 1) :
    ∃ fd ps n ds, FnOk P w K mg base CXn k (He.fAd K d8.at_) fd ps (spU (Cc P w K) n g) ∧ Vals dvs ds ∧ Binds K fd ps ds ∧ ∀ s h u h', g s h = .one u h' → s.len = n := by
  obtain ⟨fd, F, D⟩ := ok
  cases dv_ne hd (by decide)
  exact ⟨fd, _, _, [], F, .nil, bd8 D, hl⟩
theorem fo9 (hd : dvs = [] ∨ (9, dvs) ∈ Tdf) (ok : ∃ fd, FnOk P w K mg base CXn k (He.fAd K d9.at_) fd ["value"] (spU (Cc P w K) 1 g) ∧ FunD K d9.name d9.qual a9 b9 s9 (d9.dvs K) (d9.kws K) (He.fAd K d9.at_) fd) (hl : ∀ s h u h', g s h = .one u h' → s.len = 1) :
    ∃ fd ps n ds, FnOk P w K mg base CXn k (He.fAd K d9.at_) fd ps (spU (Cc P w K) n g) ∧ Vals dvs ds ∧ Binds K fd ps ds ∧ ∀ s h u h', g s h = .one u h' → s.len = n := by
  obtain ⟨fd, F, D⟩ := ok
  cases dv_ne hd (by decide)
  exact ⟨fd, _, _, [], F, .nil, bd9 D, hl⟩
theorem fo10 (hd : dvs = [] ∨ (10, dvs) ∈ Tdf) (ok : ∃ fd, FnOk P w K mg base CXn k (He.fAd K d10.at_) fd ["values"] (spU (Cc P w K) 1 g) ∧ FunD K d10.name d10.qual a10 b10 s10 (d10.dvs K) (d10.kws K) (He.fAd K d10.at_) fd) (hl : ∀ s h u h', g s h = .one u h' → s.len = 1) :
    ∃ fd ps n ds, FnOk P w K mg base CXn k (He.fAd K d10.at_) fd ps (spU (Cc P w K) n g) ∧ Vals dvs ds ∧ Binds K fd ps ds ∧ ∀ s h u h', g s h = .one u h' → s.len = n := by
  obtain ⟨fd, F, D⟩ := ok
  cases dv_ne hd (by decide)
  exact ⟨fd, _, _, [], F, .nil, bd10 D, hl⟩
theorem fo11 (hd : dvs = [] ∨ (11, dvs) ∈ Tdf) (ok : ∃ fd, FnOk P w K mg base CXn k (He.fAd K d11.at_) fd ["message"] (spU (Cc P w K) 1 g) ∧ FunD K d11.name d11.qual a11 b11 s11 (d11.dvs K) (d11.kws K) (He.fAd K d11.at_) fd) (hl : ∀ s h u h', g s h = .one u h' → s.len = 1) :
    ∃ fd ps n ds, FnOk P w K mg base CXn k (He.fAd K d11.at_) fd ps (spU (Cc P w K) n g) ∧ Vals dvs ds ∧ Binds K fd ps ds ∧ ∀ s h u h', g s h = .one u h' → s.len = n := by
  obtain ⟨fd, F, D⟩ := ok
  cases dv_ne hd (by decide)
  exact ⟨fd, _, _, [], F, .nil, bd11 D, hl⟩
theorem fo12 (hd : dvs = [] ∨ (12, dvs) ∈ Tdf) (ok : ∃ fd, FnOk P w K mg base CXn k (He.fAd K d12.at_) fd ["values", "key"] (spU (Cc P w K) 2 g) ∧ FunD K d12.name d12.qual a12 b12 s12 (d12.dvs K) (d12.kws K) (He.fAd K d12.at_) fd) (hl : ∀ s h u h', g s h = .one u h' → s.len = 2) :
    ∃ fd ps n ds, FnOk P w K mg base CXn k (He.fAd K d12.at_) fd ps (spU (Cc P w K) n g) ∧ Vals dvs ds ∧ Binds K fd ps ds ∧ ∀ s h u h', g s h = .one u h' → s.len = n := by
  obtain ⟨fd, F, D⟩ := ok
  cases dv_ne hd (by decide)
  exact ⟨fd, _, _, [], F, .nil, bd12 D, hl⟩
theorem fo13 (hd : dvs = [] ∨ (13, dvs) ∈ Tdf) (ok : ∃ fd, FnOk P w K mg base CXn k (He.fAd K d13.at_) fd ["value", "word"] (spU (Cc P w K) 2 g) ∧ FunD K d13.name d13.qual a13 b13 s13 (d13.dvs K) (d13.kws K) (He.fAd K d13.at_) fd) (hl : ∀ s h u h', g s h = .one u h' → s.len = 2) :
    ∃ fd ps n ds, FnOk P w K mg base CXn k (He.fAd K d13.at_) fd ps (spU (Cc P w K) n g) ∧ Vals dvs ds ∧ Binds K fd ps ds ∧ ∀ s h u h', g s h = .one u h' → s.len = n := by
  obtain ⟨fd, F, D⟩ := ok
  cases dv_ne hd (by decide)
  exact ⟨fd, _, _, [], F, .nil, bd13 D, hl⟩
theorem fo14 (hd : dvs = [] ∨ (14, dvs) ∈ Tdf) (ok : ∃ fd, FnOk P w K mg base CXn k (He.fAd K d14.at_) fd ["value"] (spU (Cc P w K) 1 g) ∧ FunD K d14.name d14.qual a14 b14 s14 (d14.dvs K) (d14.kws K) (He.fAd K d14.at_) fd) (hl : ∀ s h u h', g s h = .one u h' → s.len = 1) :
    ∃ fd ps n ds, FnOk P w K mg base CXn k (He.fAd K d14.at_) fd ps (spU (Cc P w K) n g) ∧ Vals dvs ds ∧ Binds K fd ps ds ∧ ∀ s h u h', g s h = .one u h' → s.len = n := by
  obtain ⟨fd, F, D⟩ := ok
  cases dv_ne hd (by decide)
  exact ⟨fd, _, _, [], F, .nil, bd14 D, hl⟩
theorem fo15 (hd : dvs = [] ∨ (15, dvs) ∈ Tdf) (ok : ∃ fd, FnOk P w K mg base CXn k (He.fAd K d15.at_) fd ["value"] (spU (Cc P w K) 1 g) ∧ FunD K d15.name d15.qual a15 b15 s15 (d15.dvs K) (d15.kws K) (He.fAd K d15.at_) fd) (hl : ∀ s h u h', g s h = .one u h' → s.len = 1) :
    ∃ fd ps n ds, FnOk P w K mg base CXn k (He.fAd K d15.at_) fd ps (spU (Cc P w K) n g) ∧ Vals dvs ds ∧ Binds K fd ps ds ∧ ∀ s h u h', g s h = .one u h' → s.len = n := by
  obtain ⟨fd, F, D⟩ := ok
  cases dv_ne hd (by decide)
  exact ⟨fd, _, _, [], F, .nil, bd15 D, hl⟩
theorem fo16 (hd : dvs = [] ∨ (16, dvs) ∈ Tdf) (ok : ∃ fd, FnOk P w K mg base CXn k (He.fAd K d16.at_) fd ["value"] (spU (Cc P w K) 1 g) ∧ FunD K d16.name d16.qual a16 b16 s16 (d16.dvs K) (d16.kws K) (He.fAd K d16.at_) fd) (hl : ∀ s h u h', g s h = .one u h' → s.len = 1) :
    ∃ fd ps n ds, FnOk P w K mg base CXn k (He.fAd K d16.at_) fd ps (spU (Cc P w K) n g) ∧ Vals dvs ds ∧ Binds K fd ps ds ∧ ∀ s h u h', g s h = .one u h' → s.len = n := by
  obtain ⟨fd, F, D⟩ := ok
  cases dv_ne hd (by decide)
  exact ⟨fd, _, _, [], F, .nil, bd16 D, hl⟩
theorem fo17 (hd : dvs = [] ∨ (17, dvs) ∈ Tdf) (ok : ∃ fd, FnOk P w K mg base CXn k (He.fAd K d17.at_) fd ["value", "least", "most"] (spU (Cc P w K) 3 g) ∧ FunD K d17.name d17.qual a17 b17 s17 (d17.dvs K) (d17.kws K) (He.fAd K d17.at_) fd) (hl : ∀ s h u h', g s h = .one u h' → s.len = 3) :
    ∃ fd ps n ds, FnOk P w K mg base CXn k (He.fAd K d17.at_) fd ps (spU (Cc P w K) n g) ∧ Vals dvs ds ∧ Binds K fd ps ds ∧ ∀ s h u h', g s h = .one u h' → s.len = n := by
  obtain ⟨fd, F, D⟩ := ok
  cases dv_ne hd (by decide)
  exact ⟨fd, _, _, [], F, .nil, bd17 D, hl⟩
theorem fo18 (hd : dvs = [] ∨ (18, dvs) ∈ Tdf) (ok : ∃ fd, FnOk P w K mg base CXn k (He.fAd K d18.at_) fd ["rule"] (spU (Cc P w K) 1 g) ∧ FunD K d18.name d18.qual a18 b18 s18 (d18.dvs K) (d18.kws K) (He.fAd K d18.at_) fd) (hl : ∀ s h u h', g s h = .one u h' → s.len = 1) :
    ∃ fd ps n ds, FnOk P w K mg base CXn k (He.fAd K d18.at_) fd ps (spU (Cc P w K) n g) ∧ Vals dvs ds ∧ Binds K fd ps ds ∧ ∀ s h u h', g s h = .one u h' → s.len = n := by
  obtain ⟨fd, F, D⟩ := ok
  cases dv_ne hd (by decide)
  exact ⟨fd, _, _, [], F, .nil, bd18 D, hl⟩
theorem fo19 (hd : dvs = [] ∨ (19, dvs) ∈ Tdf) (ok : ∃ fd, FnOk P w K mg base CXn k (He.fAd K d19.at_) fd ["rule"] (spU (Cc P w K) 1 g) ∧ FunD K d19.name d19.qual a19 b19 s19 (d19.dvs K) (d19.kws K) (He.fAd K d19.at_) fd) (hl : ∀ s h u h', g s h = .one u h' → s.len = 1) :
    ∃ fd ps n ds, FnOk P w K mg base CXn k (He.fAd K d19.at_) fd ps (spU (Cc P w K) n g) ∧ Vals dvs ds ∧ Binds K fd ps ds ∧ ∀ s h u h', g s h = .one u h' → s.len = n := by
  obtain ⟨fd, F, D⟩ := ok
  cases dv_ne hd (by decide)
  exact ⟨fd, _, _, [], F, .nil, bd19 D, hl⟩
theorem fo20 (hd : dvs = [] ∨ (20, dvs) ∈ Tdf) (ok : ∃ fd, FnOk P w K mg base CXn k (He.fAd K d20.at_) fd ["value"] (spU (Cc P w K) 1 g) ∧ FunD K d20.name d20.qual a20 b20 s20 (d20.dvs K) (d20.kws K) (He.fAd K d20.at_) fd) (hl : ∀ s h u h', g s h = .one u h' → s.len = 1) :
    ∃ fd ps n ds, FnOk P w K mg base CXn k (He.fAd K d20.at_) fd ps (spU (Cc P w K) n g) ∧ Vals dvs ds ∧ Binds K fd ps ds ∧ ∀ s h u h', g s h = .one u h' → s.len = n := by
  obtain ⟨fd, F, D⟩ := ok
  cases dv_ne hd (by decide)
  exact ⟨fd, _, _, [], F, .nil, bd20 D, hl⟩
theorem fo21 (hd : dvs = [] ∨ (21, dvs) ∈ Tdf) (ok : ∃ fd, FnOk P w K mg base CXn k (He.fAd K d21.at_) fd ["world", "value"] (spU (Cc P w K) 2 g) ∧ FunD K d21.name d21.qual a21 b21 s21 (d21.dvs K) (d21.kws K) (He.fAd K d21.at_) fd) (hl : ∀ s h u h', g s h = .one u h' → s.len = 2) :
    ∃ fd ps n ds, FnOk P w K mg base CXn k (He.fAd K d21.at_) fd ps (spU (Cc P w K) n g) ∧ Vals dvs ds ∧ Binds K fd ps ds ∧ ∀ s h u h', g s h = .one u h' → s.len = n := by
  obtain ⟨fd, F, D⟩ := ok
  cases dv_ne hd (by decide)
  exact ⟨fd, _, _, [], F, .nil, bd21 D, hl⟩
theorem fo22 (hd : dvs = [] ∨ (22, dvs) ∈ Tdf) (ok : ∃ fd, FnOk P w K mg base CXn k (He.fAd K d22.at_) fd ["world", "value"] (spU (Cc P w K) 2 g) ∧ FunD K d22.name d22.qual a22 b22 s22 (d22.dvs K) (d22.kws K) (He.fAd K d22.at_) fd) (hl : ∀ s h u h', g s h = .one u h' → s.len = 2) :
    ∃ fd ps n ds, FnOk P w K mg base CXn k (He.fAd K d22.at_) fd ps (spU (Cc P w K) n g) ∧ Vals dvs ds ∧ Binds K fd ps ds ∧ ∀ s h u h', g s h = .one u h' → s.len = n := by
  obtain ⟨fd, F, D⟩ := ok
  cases dv_ne hd (by decide)
  exact ⟨fd, _, _, [], F, .nil, bd22 D, hl⟩
theorem fo23 (hd : dvs = [] ∨ (23, dvs) ∈ Tdf) (ok : ∃ fd, FnOk P w K mg base CXn k (He.fAd K d23.at_) fd ["world", "value"] (spU (Cc P w K) 2 g) ∧ FunD K d23.name d23.qual a23 b23 s23 (d23.dvs K) (d23.kws K) (He.fAd K d23.at_) fd) (hl : ∀ s h u h', g s h = .one u h' → s.len = 2) :
    ∃ fd ps n ds, FnOk P w K mg base CXn k (He.fAd K d23.at_) fd ps (spU (Cc P w K) n g) ∧ Vals dvs ds ∧ Binds K fd ps ds ∧ ∀ s h u h', g s h = .one u h' → s.len = n := by
  obtain ⟨fd, F, D⟩ := ok
  cases dv_ne hd (by decide)
  exact ⟨fd, _, _, [], F, .nil, bd23 D, hl⟩
theorem fo24 (hd : dvs = [] ∨ (24, dvs) ∈ Tdf) (ok : ∃ fd, FnOk P w K mg base CXn k (He.fAd K d24.at_) fd ["value"] (spU (Cc P w K) 1 g) ∧ FunD K d24.name d24.qual a24 b24 s24 (d24.dvs K) (d24.kws K) (He.fAd K d24.at_) fd) (hl : ∀ s h u h', g s h = .one u h' → s.len = 1) :
    ∃ fd ps n ds, FnOk P w K mg base CXn k (He.fAd K d24.at_) fd ps (spU (Cc P w K) n g) ∧ Vals dvs ds ∧ Binds K fd ps ds ∧ ∀ s h u h', g s h = .one u h' → s.len = n := by
  obtain ⟨fd, F, D⟩ := ok
  cases dv_ne hd (by decide)
  exact ⟨fd, _, _, [], F, .nil, bd24 D, hl⟩
theorem fo25 (hd : dvs = [] ∨ (25, dvs) ∈ Tdf) (ok : ∃ fd, FnOk P w K mg base CXn k (He.fAd K d25.at_) fd ["world"] (spU (Cc P w K) 1 g) ∧ FunD K d25.name d25.qual a25 b25 s25 (d25.dvs K) (d25.kws K) (He.fAd K d25.at_) fd) (hl : ∀ s h u h', g s h = .one u h' → s.len = 1) :
    ∃ fd ps n ds, FnOk P w K mg base CXn k (He.fAd K d25.at_) fd ps (spU (Cc P w K) n g) ∧ Vals dvs ds ∧ Binds K fd ps ds ∧ ∀ s h u h', g s h = .one u h' → s.len = n := by
  obtain ⟨fd, F, D⟩ := ok
  cases dv_ne hd (by decide)
  exact ⟨fd, _, _, [], F, .nil, bd25 D, hl⟩
theorem fo26 (hd : dvs = [] ∨ (26, dvs) ∈ Tdf) (ok : ∃ fd, FnOk P w K mg base CXn k (He.fAd K d26.at_) fd ["term", "value", "part", "slots"] (spU (Cc P w K) 4 g) ∧ FunD K d26.name d26.qual a26 b26 s26 (d26.dvs K) (d26.kws K) (He.fAd K d26.at_) fd) (hl : ∀ s h u h', g s h = .one u h' → s.len = 4) :
    ∃ fd ps n ds, FnOk P w K mg base CXn k (He.fAd K d26.at_) fd ps (spU (Cc P w K) n g) ∧ Vals dvs ds ∧ Binds K fd ps ds ∧ ∀ s h u h', g s h = .one u h' → s.len = n := by
  obtain ⟨fd, F, D⟩ := ok
  cases dv_ne hd (by decide)
  exact ⟨fd, _, _, [], F, .nil, bd26 D, hl⟩
theorem fo27 (hd : dvs = [] ∨ (27, dvs) ∈ Tdf) (ok : ∃ fd, FnOk P w K mg base CXn k (He.fAd K d27.at_) fd ["when", "value", "part", "slots"] (spU (Cc P w K) 4 g) ∧ FunD K d27.name d27.qual a27 b27 s27 (d27.dvs K) (d27.kws K) (He.fAd K d27.at_) fd) (hl : ∀ s h u h', g s h = .one u h' → s.len = 4) :
    ∃ fd ps n ds, FnOk P w K mg base CXn k (He.fAd K d27.at_) fd ps (spU (Cc P w K) n g) ∧ Vals dvs ds ∧ Binds K fd ps ds ∧ ∀ s h u h', g s h = .one u h' → s.len = n := by
  obtain ⟨fd, F, D⟩ := ok
  cases dv_ne hd (by decide)
  exact ⟨fd, _, _, [], F, .nil, bd27 D, hl⟩
theorem fo28 (hd : dvs = [] ∨ (28, dvs) ∈ Tdf) (ok : ∃ fd, FnOk P w K mg base CXn k (He.fAd K d28.at_) fd ["part", "state", "slots", "word", "value"] (spU (Cc P w K) 5 g) ∧ FunD K d28.name d28.qual a28 b28 s28 (d28.dvs K) (d28.kws K) (He.fAd K d28.at_) fd) (hl : ∀ s h u h', g s h = .one u h' → s.len = 5) :
    ∃ fd ps n ds, FnOk P w K mg base CXn k (He.fAd K d28.at_) fd ps (spU (Cc P w K) n g) ∧ Vals dvs ds ∧ Binds K fd ps ds ∧ ∀ s h u h', g s h = .one u h' → s.len = n := by
  obtain ⟨fd, F, D⟩ := ok
  cases dv_ne hd (by decide)
  exact ⟨fd, _, _, [], F, .nil, bd28 D, hl⟩
theorem fo29 (hd : dvs = [] ∨ (29, dvs) ∈ Tdf) (ok : ∃ fd, FnOk P w K mg base CXn k (He.fAd K d29.at_) fd ["world", "standing", "right", "value"] (spU (Cc P w K) 4 g) ∧ FunD K d29.name d29.qual a29 b29 s29 (d29.dvs K) (d29.kws K) (He.fAd K d29.at_) fd) (hl : ∀ s h u h', g s h = .one u h' → s.len = 4) :
    ∃ fd ps n ds, FnOk P w K mg base CXn k (He.fAd K d29.at_) fd ps (spU (Cc P w K) n g) ∧ Vals dvs ds ∧ Binds K fd ps ds ∧ ∀ s h u h', g s h = .one u h' → s.len = n := by
  obtain ⟨fd, F, D⟩ := ok
  cases dv_ne hd (by decide)
  exact ⟨fd, _, _, [], F, .nil, bd29 D, hl⟩
theorem fo30 (hd : dvs = [] ∨ (30, dvs) ∈ Tdf) (ok : ∃ fd, FnOk P w K mg base CXn k (He.fAd K d30.at_) fd ["world", "standing", "name"] (spU (Cc P w K) 3 g) ∧ FunD K d30.name d30.qual a30 b30 s30 (d30.dvs K) (d30.kws K) (He.fAd K d30.at_) fd) (hl : ∀ s h u h', g s h = .one u h' → s.len = 3) :
    ∃ fd ps n ds, FnOk P w K mg base CXn k (He.fAd K d30.at_) fd ps (spU (Cc P w K) n g) ∧ Vals dvs ds ∧ Binds K fd ps ds ∧ ∀ s h u h', g s h = .one u h' → s.len = n := by
  obtain ⟨fd, F, D⟩ := ok
  cases dv_ne hd (by decide)
  exact ⟨fd, _, _, [], F, .nil, bd30 D, hl⟩
theorem fo31 (hd : dvs = [] ∨ (31, dvs) ∈ Tdf) (ok : ∃ fd, FnOk P w K mg base CXn k (He.fAd K d31.at_) fd ["air"] (spU (Cc P w K) 1 g) ∧ FunD K d31.name d31.qual a31 b31 s31 (d31.dvs K) (d31.kws K) (He.fAd K d31.at_) fd) (hl : ∀ s h u h', g s h = .one u h' → s.len = 1) :
    ∃ fd ps n ds, FnOk P w K mg base CXn k (He.fAd K d31.at_) fd ps (spU (Cc P w K) n g) ∧ Vals dvs ds ∧ Binds K fd ps ds ∧ ∀ s h u h', g s h = .one u h' → s.len = n := by
  obtain ⟨fd, F, D⟩ := ok
  cases dv_ne hd (by decide)
  exact ⟨fd, _, _, [], F, .nil, bd31 D, hl⟩
theorem fo32 (hd : dvs = [] ∨ (32, dvs) ∈ Tdf) (ok : ∃ fd, FnOk P w K mg base CXn k (He.fAd K d32.at_) fd ["rows"] (spU (Cc P w K) 1 g) ∧ FunD K d32.name d32.qual a32 b32 s32 (d32.dvs K) (d32.kws K) (He.fAd K d32.at_) fd) (hl : ∀ s h u h', g s h = .one u h' → s.len = 1) :
    ∃ fd ps n ds, FnOk P w K mg base CXn k (He.fAd K d32.at_) fd ps (spU (Cc P w K) n g) ∧ Vals dvs ds ∧ Binds K fd ps ds ∧ ∀ s h u h', g s h = .one u h' → s.len = n := by
  obtain ⟨fd, F, D⟩ := ok
  cases dv_ne hd (by decide)
  exact ⟨fd, _, _, [], F, .nil, bd32 D, hl⟩
theorem fo33 (hd : dvs = [] ∨ (33, dvs) ∈ Tdf) (ok : ∃ fd, FnOk P w K mg base CXn k (He.fAd K d33.at_) fd ["world"] (spU (Cc P w K) 1 g) ∧ FunD K d33.name d33.qual a33 b33 s33 (d33.dvs K) (d33.kws K) (He.fAd K d33.at_) fd) (hl : ∀ s h u h', g s h = .one u h' → s.len = 1) :
    ∃ fd ps n ds, FnOk P w K mg base CXn k (He.fAd K d33.at_) fd ps (spU (Cc P w K) n g) ∧ Vals dvs ds ∧ Binds K fd ps ds ∧ ∀ s h u h', g s h = .one u h' → s.len = n := by
  obtain ⟨fd, F, D⟩ := ok
  cases dv_ne hd (by decide)
  exact ⟨fd, _, _, [], F, .nil, bd33 D, hl⟩
theorem fo34 (hd : dvs = [] ∨ (34, dvs) ∈ Tdf) (ok : ∃ fd, FnOk P w K mg base CXn k (He.fAd K d34.at_) fd ["air", "messages"] (spU (Cc P w K) 2 g) ∧ FunD K d34.name d34.qual a34 b34 s34 (d34.dvs K) (d34.kws K) (He.fAd K d34.at_) fd) (hl : ∀ s h u h', g s h = .one u h' → s.len = 2) :
    ∃ fd ps n ds, FnOk P w K mg base CXn k (He.fAd K d34.at_) fd ps (spU (Cc P w K) n g) ∧ Vals dvs ds ∧ Binds K fd ps ds ∧ ∀ s h u h', g s h = .one u h' → s.len = n := by
  obtain ⟨fd, F, D⟩ := ok
  cases dv_ne hd (by decide)
  exact ⟨fd, _, _, [], F, .nil, bd34 D, hl⟩
theorem fo35 (hd : dvs = [] ∨ (35, dvs) ∈ Tdf) (ok : ∃ fd, FnOk P w K mg base CXn k (He.fAd K d35.at_) fd ["air", "message"] (spU (Cc P w K) 2 g) ∧ FunD K d35.name d35.qual a35 b35 s35 (d35.dvs K) (d35.kws K) (He.fAd K d35.at_) fd) (hl : ∀ s h u h', g s h = .one u h' → s.len = 2) :
    ∃ fd ps n ds, FnOk P w K mg base CXn k (He.fAd K d35.at_) fd ps (spU (Cc P w K) n g) ∧ Vals dvs ds ∧ Binds K fd ps ds ∧ ∀ s h u h', g s h = .one u h' → s.len = n := by
  obtain ⟨fd, F, D⟩ := ok
  cases dv_ne hd (by decide)
  exact ⟨fd, _, _, [], F, .nil, bd35 D, hl⟩
theorem fo36 (hd : dvs = [] ∨ (36, dvs) ∈ Tdf) (ok : ∃ fd, FnOk P w K mg base CXn k (He.fAd K d36.at_) fd ["world", "value"] (spU (Cc P w K) 2 g) ∧ FunD K d36.name d36.qual a36 b36 s36 (d36.dvs K) (d36.kws K) (He.fAd K d36.at_) fd) (hl : ∀ s h u h', g s h = .one u h' → s.len = 2) :
    ∃ fd ps n ds, FnOk P w K mg base CXn k (He.fAd K d36.at_) fd ps (spU (Cc P w K) n g) ∧ Vals dvs ds ∧ Binds K fd ps ds ∧ ∀ s h u h', g s h = .one u h' → s.len = n := by
  obtain ⟨fd, F, D⟩ := ok
  cases dv_ne hd (by decide)
  exact ⟨fd, _, _, [], F, .nil, bd36 D, hl⟩
theorem fo37 (hd : dvs = [] ∨ (37, dvs) ∈ Tdf) (ok : ∃ fd, FnOk P w K mg base CXn k (He.fAd K d37.at_) fd ["world", "spot", "deed"] (spU (Cc P w K) 3 g) ∧ FunD K d37.name d37.qual a37 b37 s37 (d37.dvs K) (d37.kws K) (He.fAd K d37.at_) fd) (hl : ∀ s h u h', g s h = .one u h' → s.len = 3) :
    ∃ fd ps n ds, FnOk P w K mg base CXn k (He.fAd K d37.at_) fd ps (spU (Cc P w K) n g) ∧ Vals dvs ds ∧ Binds K fd ps ds ∧ ∀ s h u h', g s h = .one u h' → s.len = n := by
  obtain ⟨fd, F, D⟩ := ok
  cases dv_ne hd (by decide)
  exact ⟨fd, _, _, [], F, .nil, bd37 D, hl⟩
theorem fo38 (hd : dvs = [] ∨ (38, dvs) ∈ Tdf) (ok : ∃ fd, FnOk P w K mg base CXn k (He.fAd K d38.at_) fd ["world", "spot", "deed"] (spU (Cc P w K) 3 g) ∧ FunD K d38.name d38.qual a38 b38 s38 (d38.dvs K) (d38.kws K) (He.fAd K d38.at_) fd) (hl : ∀ s h u h', g s h = .one u h' → s.len = 3) :
    ∃ fd ps n ds, FnOk P w K mg base CXn k (He.fAd K d38.at_) fd ps (spU (Cc P w K) n g) ∧ Vals dvs ds ∧ Binds K fd ps ds ∧ ∀ s h u h', g s h = .one u h' → s.len = n := by
  obtain ⟨fd, F, D⟩ := ok
  cases dv_ne hd (by decide)
  exact ⟨fd, _, _, [], F, .nil, bd38 D, hl⟩
theorem fo39 (hd : dvs = [] ∨ (39, dvs) ∈ Tdf) (ok : ∃ fd, FnOk P w K mg base CXn k (He.fAd K d39.at_) fd ["world", "value"] (spU (Cc P w K) 2 g) ∧ FunD K d39.name d39.qual a39 b39 s39 (d39.dvs K) (d39.kws K) (He.fAd K d39.at_) fd) (hl : ∀ s h u h', g s h = .one u h' → s.len = 2) :
    ∃ fd ps n ds, FnOk P w K mg base CXn k (He.fAd K d39.at_) fd ps (spU (Cc P w K) n g) ∧ Vals dvs ds ∧ Binds K fd ps ds ∧ ∀ s h u h', g s h = .one u h' → s.len = n := by
  obtain ⟨fd, F, D⟩ := ok
  cases dv_ne hd (by decide)
  exact ⟨fd, _, _, [], F, .nil, bd39 D, hl⟩
theorem fo40 (hd : dvs = [] ∨ (40, dvs) ∈ Tdf) (ok : ∃ fd, FnOk P w K mg base CXn k (He.fAd K d40.at_) fd ["world", "value"] (spU (Cc P w K) 2 g) ∧ FunD K d40.name d40.qual a40 b40 s40 (d40.dvs K) (d40.kws K) (He.fAd K d40.at_) fd) (hl : ∀ s h u h', g s h = .one u h' → s.len = 2) :
    ∃ fd ps n ds, FnOk P w K mg base CXn k (He.fAd K d40.at_) fd ps (spU (Cc P w K) n g) ∧ Vals dvs ds ∧ Binds K fd ps ds ∧ ∀ s h u h', g s h = .one u h' → s.len = n := by
  obtain ⟨fd, F, D⟩ := ok
  cases dv_ne hd (by decide)
  exact ⟨fd, _, _, [], F, .nil, bd40 D, hl⟩
theorem fo41 (hd : dvs = [] ∨ (41, dvs) ∈ Tdf) (ok : ∃ fd, FnOk P w K mg base CXn k (He.fAd K d41.at_) fd ["world", "value"] (spU (Cc P w K) 2 g) ∧ FunD K d41.name d41.qual a41 b41 s41 (d41.dvs K) (d41.kws K) (He.fAd K d41.at_) fd) (hl : ∀ s h u h', g s h = .one u h' → s.len = 2) :
    ∃ fd ps n ds, FnOk P w K mg base CXn k (He.fAd K d41.at_) fd ps (spU (Cc P w K) n g) ∧ Vals dvs ds ∧ Binds K fd ps ds ∧ ∀ s h u h', g s h = .one u h' → s.len = n := by
  obtain ⟨fd, F, D⟩ := ok
  cases dv_ne hd (by decide)
  exact ⟨fd, _, _, [], F, .nil, bd41 D, hl⟩
theorem fo42 (hd : dvs = [] ∨ (42, dvs) ∈ Tdf) (ok : ∃ fd, FnOk P w K mg base CXn k (He.fAd K d42.at_) fd ["world", "value"] (spU (Cc P w K) 2 g) ∧ FunD K d42.name d42.qual a42 b42 s42 (d42.dvs K) (d42.kws K) (He.fAd K d42.at_) fd) (hl : ∀ s h u h', g s h = .one u h' → s.len = 2) :
    ∃ fd ps n ds, FnOk P w K mg base CXn k (He.fAd K d42.at_) fd ps (spU (Cc P w K) n g) ∧ Vals dvs ds ∧ Binds K fd ps ds ∧ ∀ s h u h', g s h = .one u h' → s.len = n := by
  obtain ⟨fd, F, D⟩ := ok
  cases dv_ne hd (by decide)
  exact ⟨fd, _, _, [], F, .nil, bd42 D, hl⟩
theorem fo43 (hd : dvs = [] ∨ (43, dvs) ∈ Tdf) (ok : ∃ fd, FnOk P w K mg base CXn k (He.fAd K d43.at_) fd ["world", "value"] (spU (Cc P w K) 2 g) ∧ FunD K d43.name d43.qual a43 b43 s43 (d43.dvs K) (d43.kws K) (He.fAd K d43.at_) fd) (hl : ∀ s h u h', g s h = .one u h' → s.len = 2) :
    ∃ fd ps n ds, FnOk P w K mg base CXn k (He.fAd K d43.at_) fd ps (spU (Cc P w K) n g) ∧ Vals dvs ds ∧ Binds K fd ps ds ∧ ∀ s h u h', g s h = .one u h' → s.len = n := by
  obtain ⟨fd, F, D⟩ := ok
  cases dv_ne hd (by decide)
  exact ⟨fd, _, _, [], F, .nil, bd43 D, hl⟩
theorem fo44 (hd : dvs = [] ∨ (44, dvs) ∈ Tdf) (ok : ∃ fd, FnOk P w K mg base CXn k (He.fAd K d44.at_) fd ["world", "value"] (spU (Cc P w K) 2 g) ∧ FunD K d44.name d44.qual a44 b44 s44 (d44.dvs K) (d44.kws K) (He.fAd K d44.at_) fd) (hl : ∀ s h u h', g s h = .one u h' → s.len = 2) :
    ∃ fd ps n ds, FnOk P w K mg base CXn k (He.fAd K d44.at_) fd ps (spU (Cc P w K) n g) ∧ Vals dvs ds ∧ Binds K fd ps ds ∧ ∀ s h u h', g s h = .one u h' → s.len = n := by
  obtain ⟨fd, F, D⟩ := ok
  cases dv_ne hd (by decide)
  exact ⟨fd, _, _, [], F, .nil, bd44 D, hl⟩
theorem fo45 (hd : dvs = [] ∨ (45, dvs) ∈ Tdf) (ok : ∃ fd, FnOk P w K mg base CXn k (He.fAd K d45.at_) fd ["world", "deeds", "spot"] (spU (Cc P w K) 3 g) ∧ FunD K d45.name d45.qual a45 b45 s45 (d45.dvs K) (d45.kws K) (He.fAd K d45.at_) fd) (hl : ∀ s h u h', g s h = .one u h' → s.len = 3) :
    ∃ fd ps n ds, FnOk P w K mg base CXn k (He.fAd K d45.at_) fd ps (spU (Cc P w K) n g) ∧ Vals dvs ds ∧ Binds K fd ps ds ∧ ∀ s h u h', g s h = .one u h' → s.len = n := by
  obtain ⟨fd, F, D⟩ := ok
  by_cases h0 : dvs = []
  · subst h0
    obtain ⟨ds, v, b⟩ := bd45_1 D
    exact ⟨fd, _, _, ds, F, v, b, hl⟩
  · have hd := hd.resolve_left h0
    simp only [Tdf, List.mem_cons, List.not_mem_nil, or_false, Prod.mk.injEq, true_and] at hd
    subst hd
    obtain ⟨ds, v, b⟩ := bd45_0 D
    exact ⟨fd, _, _, ds, F, v, b, hl⟩
theorem fo46 (hd : dvs = [] ∨ (46, dvs) ∈ Tdf) (ok : ∃ fd, FnOk P w K mg base CXn k (He.fAd K d46.at_) fd ["script"] (spU (Cc P w K) 1 g) ∧ FunD K d46.name d46.qual a46 b46 s46 (d46.dvs K) (d46.kws K) (He.fAd K d46.at_) fd) (hl : ∀ s h u h', g s h = .one u h' → s.len = 1) :
    ∃ fd ps n ds, FnOk P w K mg base CXn k (He.fAd K d46.at_) fd ps (spU (Cc P w K) n g) ∧ Vals dvs ds ∧ Binds K fd ps ds ∧ ∀ s h u h', g s h = .one u h' → s.len = n := by
  obtain ⟨fd, F, D⟩ := ok
  cases dv_ne hd (by decide)
  exact ⟨fd, _, _, [], F, .nil, bd46 D, hl⟩
theorem fo47 (hd : dvs = [] ∨ (47, dvs) ∈ Tdf) (ok : ∃ fd, FnOk P w K mg base CXn k (He.fAd K d47.at_) fd ["pen", "many"] (spU (Cc P w K) 2 g) ∧ FunD K d47.name d47.qual a47 b47 s47 (d47.dvs K) (d47.kws K) (He.fAd K d47.at_) fd) (hl : ∀ s h u h', g s h = .one u h' → s.len = 2) :
    ∃ fd ps n ds, FnOk P w K mg base CXn k (He.fAd K d47.at_) fd ps (spU (Cc P w K) n g) ∧ Vals dvs ds ∧ Binds K fd ps ds ∧ ∀ s h u h', g s h = .one u h' → s.len = n := by
  obtain ⟨fd, F, D⟩ := ok
  cases dv_ne hd (by decide)
  exact ⟨fd, _, _, [], F, .nil, bd47 D, hl⟩
theorem fo48 (hd : dvs = [] ∨ (48, dvs) ∈ Tdf) (ok : ∃ fd, FnOk P w K mg base CXn k (He.fAd K d48.at_) fd ["pen", "some"] (spU (Cc P w K) 2 g) ∧ FunD K d48.name d48.qual a48 b48 s48 (d48.dvs K) (d48.kws K) (He.fAd K d48.at_) fd) (hl : ∀ s h u h', g s h = .one u h' → s.len = 2) :
    ∃ fd ps n ds, FnOk P w K mg base CXn k (He.fAd K d48.at_) fd ps (spU (Cc P w K) n g) ∧ Vals dvs ds ∧ Binds K fd ps ds ∧ ∀ s h u h', g s h = .one u h' → s.len = n := by
  obtain ⟨fd, F, D⟩ := ok
  cases dv_ne hd (by decide)
  exact ⟨fd, _, _, [], F, .nil, bd48 D, hl⟩
theorem fo49 (hd : dvs = [] ∨ (49, dvs) ∈ Tdf) (ok : ∃ fd, FnOk P w K mg base CXn k (He.fAd K d49.at_) fd ["rule_rows", "holds", "value"] (spU (Cc P w K) 3 g) ∧ FunD K d49.name d49.qual a49 b49 s49 (d49.dvs K) (d49.kws K) (He.fAd K d49.at_) fd) (hl : ∀ s h u h', g s h = .one u h' → s.len = 3) :
    ∃ fd ps n ds, FnOk P w K mg base CXn k (He.fAd K d49.at_) fd ps (spU (Cc P w K) n g) ∧ Vals dvs ds ∧ Binds K fd ps ds ∧ ∀ s h u h', g s h = .one u h' → s.len = n := by
  obtain ⟨fd, F, D⟩ := ok
  cases dv_ne hd (by decide)
  exact ⟨fd, _, _, [], F, .nil, bd49 D, hl⟩
theorem fo50 (hd : dvs = [] ∨ (50, dvs) ∈ Tdf) (ok : ∃ fd, FnOk P w K mg base CXn k (He.fAd K d50.at_) fd ["script"] (spU (Cc P w K) 1 g) ∧ FunD K d50.name d50.qual a50 b50 s50 (d50.dvs K) (d50.kws K) (He.fAd K d50.at_) fd) (hl : ∀ s h u h', g s h = .one u h' → s.len = 1) :
    ∃ fd ps n ds, FnOk P w K mg base CXn k (He.fAd K d50.at_) fd ps (spU (Cc P w K) n g) ∧ Vals dvs ds ∧ Binds K fd ps ds ∧ ∀ s h u h', g s h = .one u h' → s.len = n := by
  obtain ⟨fd, F, D⟩ := ok
  cases dv_ne hd (by decide)
  exact ⟨fd, _, _, [], F, .nil, bd50 D, hl⟩
theorem fo51 (hd : dvs = [] ∨ (51, dvs) ∈ Tdf) (ok : ∃ fd, FnOk P w K mg base CXn k (He.fAd K d51.at_) fd ["self", "state", "word", "whens", "acts", "later"] (spU (Cc P w K) 6 g) ∧ FunD K d51.name d51.qual a51 b51 s51 (d51.dvs K) (d51.kws K) (He.fAd K d51.at_) fd) (hl : ∀ s h u h', g s h = .one u h' → s.len = 6) :
    ∃ fd ps n ds, FnOk P w K mg base CXn k (He.fAd K d51.at_) fd ps (spU (Cc P w K) n g) ∧ Vals dvs ds ∧ Binds K fd ps ds ∧ ∀ s h u h', g s h = .one u h' → s.len = n := by
  obtain ⟨fd, F, D⟩ := ok
  cases dv_ne hd (by decide)
  exact ⟨fd, _, _, [], F, .nil, bd51 D, hl⟩
theorem fo52 (hd : dvs = [] ∨ (52, dvs) ∈ Tdf) (ok : ∃ fd, FnOk P w K mg base CXn k (He.fAd K d52.at_) fd ["self", "other"] (spU (Cc P w K) 2 g) ∧ FunD K d52.name d52.qual a52 b52 s52 (d52.dvs K) (d52.kws K) (He.fAd K d52.at_) fd) (hl : ∀ s h u h', g s h = .one u h' → s.len = 2) :
    ∃ fd ps n ds, FnOk P w K mg base CXn k (He.fAd K d52.at_) fd ps (spU (Cc P w K) n g) ∧ Vals dvs ds ∧ Binds K fd ps ds ∧ ∀ s h u h', g s h = .one u h' → s.len = n := by
  obtain ⟨fd, F, D⟩ := ok
  cases dv_ne hd (by decide)
  exact ⟨fd, _, _, [], F, .nil, bd52 D, hl⟩
theorem fo53 (hd : dvs = [] ∨ (53, dvs) ∈ Tdf) (ok : ∃ fd, FnOk P w K mg base CXn k (He.fAd K d53.at_) fd ["self", "name", "words", "states", "slots", "begin", "rules"] (spU (Cc P w K) 7 g) ∧ FunD K d53.name d53.qual a53 b53 s53 (d53.dvs K) (d53.kws K) (He.fAd K d53.at_) fd) (hl : ∀ s h u h', g s h = .one u h' → s.len = 7) :
    ∃ fd ps n ds, FnOk P w K mg base CXn k (He.fAd K d53.at_) fd ps (spU (Cc P w K) n g) ∧ Vals dvs ds ∧ Binds K fd ps ds ∧ ∀ s h u h', g s h = .one u h' → s.len = n := by
  obtain ⟨fd, F, D⟩ := ok
  cases dv_ne hd (by decide)
  exact ⟨fd, _, _, [], F, .nil, bd53 D, hl⟩
theorem fo54 (hd : dvs = [] ∨ (54, dvs) ∈ Tdf) (ok : ∃ fd, FnOk P w K mg base CXn k (He.fAd K d54.at_) fd ["self", "other"] (spU (Cc P w K) 2 g) ∧ FunD K d54.name d54.qual a54 b54 s54 (d54.dvs K) (d54.kws K) (He.fAd K d54.at_) fd) (hl : ∀ s h u h', g s h = .one u h' → s.len = 2) :
    ∃ fd ps n ds, FnOk P w K mg base CXn k (He.fAd K d54.at_) fd ps (spU (Cc P w K) n g) ∧ Vals dvs ds ∧ Binds K fd ps ds ∧ ∀ s h u h', g s h = .one u h' → s.len = n := by
  obtain ⟨fd, F, D⟩ := ok
  cases dv_ne hd (by decide)
  exact ⟨fd, _, _, [], F, .nil, bd54 D, hl⟩
theorem fo55 (hd : dvs = [] ∨ (55, dvs) ∈ Tdf) (ok : ∃ fd, FnOk P w K mg base CXn k (He.fAd K d55.at_) fd ["self", "name", "words", "is_friend", "holds"] (spU (Cc P w K) 5 g) ∧ FunD K d55.name d55.qual a55 b55 s55 (d55.dvs K) (d55.kws K) (He.fAd K d55.at_) fd) (hl : ∀ s h u h', g s h = .one u h' → s.len = 5) :
    ∃ fd ps n ds, FnOk P w K mg base CXn k (He.fAd K d55.at_) fd ps (spU (Cc P w K) n g) ∧ Vals dvs ds ∧ Binds K fd ps ds ∧ ∀ s h u h', g s h = .one u h' → s.len = n := by
  obtain ⟨fd, F, D⟩ := ok
  cases dv_ne hd (by decide)
  exact ⟨fd, _, _, [], F, .nil, bd55 D, hl⟩
theorem fo56 (hd : dvs = [] ∨ (56, dvs) ∈ Tdf) (ok : ∃ fd, FnOk P w K mg base CXn k (He.fAd K d56.at_) fd ["self", "other"] (spU (Cc P w K) 2 g) ∧ FunD K d56.name d56.qual a56 b56 s56 (d56.dvs K) (d56.kws K) (He.fAd K d56.at_) fd) (hl : ∀ s h u h', g s h = .one u h' → s.len = 2) :
    ∃ fd ps n ds, FnOk P w K mg base CXn k (He.fAd K d56.at_) fd ps (spU (Cc P w K) n g) ∧ Vals dvs ds ∧ Binds K fd ps ds ∧ ∀ s h u h', g s h = .one u h' → s.len = n := by
  obtain ⟨fd, F, D⟩ := ok
  cases dv_ne hd (by decide)
  exact ⟨fd, _, _, [], F, .nil, bd56 D, hl⟩
theorem fo57 (hd : dvs = [] ∨ (57, dvs) ∈ Tdf) (ok : ∃ fd, FnOk P w K mg base CXn k (He.fAd K d57.at_) fd ["self", "marks", "parts", "people"] (spU (Cc P w K) 4 g) ∧ FunD K d57.name d57.qual a57 b57 s57 (d57.dvs K) (d57.kws K) (He.fAd K d57.at_) fd) (hl : ∀ s h u h', g s h = .one u h' → s.len = 4) :
    ∃ fd ps n ds, FnOk P w K mg base CXn k (He.fAd K d57.at_) fd ps (spU (Cc P w K) n g) ∧ Vals dvs ds ∧ Binds K fd ps ds ∧ ∀ s h u h', g s h = .one u h' → s.len = n := by
  obtain ⟨fd, F, D⟩ := ok
  cases dv_ne hd (by decide)
  exact ⟨fd, _, _, [], F, .nil, bd57 D, hl⟩
theorem fo58 (hd : dvs = [] ∨ (58, dvs) ∈ Tdf) (ok : ∃ fd, FnOk P w K mg base CXn k (He.fAd K d58.at_) fd ["self", "value"] (spU (Cc P w K) 2 g) ∧ FunD K d58.name d58.qual a58 b58 s58 (d58.dvs K) (d58.kws K) (He.fAd K d58.at_) fd) (hl : ∀ s h u h', g s h = .one u h' → s.len = 2) :
    ∃ fd ps n ds, FnOk P w K mg base CXn k (He.fAd K d58.at_) fd ps (spU (Cc P w K) n g) ∧ Vals dvs ds ∧ Binds K fd ps ds ∧ ∀ s h u h', g s h = .one u h' → s.len = n := by
  obtain ⟨fd, F, D⟩ := ok
  cases dv_ne hd (by decide)
  exact ⟨fd, _, _, [], F, .nil, bd58 D, hl⟩
theorem fo59 (hd : dvs = [] ∨ (59, dvs) ∈ Tdf) (ok : ∃ fd, FnOk P w K mg base CXn k (He.fAd K d59.at_) fd ["self", "other"] (spU (Cc P w K) 2 g) ∧ FunD K d59.name d59.qual a59 b59 s59 (d59.dvs K) (d59.kws K) (He.fAd K d59.at_) fd) (hl : ∀ s h u h', g s h = .one u h' → s.len = 2) :
    ∃ fd ps n ds, FnOk P w K mg base CXn k (He.fAd K d59.at_) fd ps (spU (Cc P w K) n g) ∧ Vals dvs ds ∧ Binds K fd ps ds ∧ ∀ s h u h', g s h = .one u h' → s.len = n := by
  obtain ⟨fd, F, D⟩ := ok
  cases dv_ne hd (by decide)
  exact ⟨fd, _, _, [], F, .nil, bd59 D, hl⟩
theorem keepK (nm : Nm fa fns ex K mg) : ∀ f A, (Cc P w K).G f = some A → PySem.W.keepIn K (.ref A) = true := fun f A hG => by
  have hG : (fns[f]?).map (fun d => He.fAd K d.at_) = some A := hG
  cases e : fns[f]? with
  | none => rw [e] at hG; cases hG
  | some d =>
    rw [e] at hG; cases hG
    obtain ⟨fd, F⟩ := nm.c.def_ f e
    exact F.kp
theorem mksK (nm : Nm fa fns ex K mg) : ∀ c A, (Cc P w K).CA c = some A → ∃ f, Mk K A f ∧ (Cc P w K).G (prg.init c) = some f := fun c A hA => by
  obtain ⟨x, hx, rfl⟩ := ctCA hA
  match c, hx with
  | 0, hx => cases hx; exact ⟨_, He.mkr_ok (nm.c.fact 93), rfl⟩
  | 1, hx => cases hx; exact ⟨_, He.mkr_ok (nm.c.fact 95), rfl⟩
  | 2, hx => cases hx; exact ⟨_, He.mkr_ok (nm.c.fact 97), rfl⟩
  | 3, hx => cases hx; exact ⟨_, He.mkr_ok (nm.c.fact 99), rfl⟩
  | c + 4, hx => cases hx
theorem lv0 (nm : Nm fa fns ex K mg) : Lv (Cc P w K) Tdf P w K mg base prg (callF prg W 0) k := by
  refine ⟨fun f A dvs hG hd => ?_, keepK nm, mksK nm, insA nm⟩
  match f, hG, hd with
  | 0, hG, hd => cases hG; exact fo0 hd (let ⟨fd, F⟩ := nm.c.def_ 0 (d := d0) rfl; ⟨fd, fn_0 F rfl, F⟩) fun s h u h' e => by cases e
  | 1, hG, hd => cases hG; exact fo1 hd (let ⟨fd, F⟩ := nm.c.def_ 1 (d := d1) rfl; ⟨fd, fn_0 F rfl, F⟩) fun s h u h' e => by cases e
  | 2, hG, hd => cases hG; exact fo2 hd (let ⟨fd, F⟩ := nm.c.def_ 2 (d := d2) rfl; ⟨fd, fn_0 F rfl, F⟩) fun s h u h' e => by cases e
  | 3, hG, hd => cases hG; exact fo3 hd (let ⟨fd, F⟩ := nm.c.def_ 3 (d := d3) rfl; ⟨fd, fn_0 F rfl, F⟩) fun s h u h' e => by cases e
  | 4, hG, hd => cases hG; exact fo4 hd (let ⟨fd, F⟩ := nm.c.def_ 4 (d := d4) rfl; ⟨fd, fn_0 F rfl, F⟩) fun s h u h' e => by cases e
  | 5, hG, hd => cases hG; exact fo5 hd (let ⟨fd, F⟩ := nm.c.def_ 5 (d := d5) rfl; ⟨fd, fn_0 F rfl, F⟩) fun s h u h' e => by cases e
  | 6, hG, hd => cases hG; exact fo6 hd (let ⟨fd, F⟩ := nm.c.def_ 6 (d := d6) rfl; ⟨fd, fn_0 F rfl, F⟩) fun s h u h' e => by cases e
  | 7, hG, hd => cases hG; exact fo7 hd (let ⟨fd, F⟩ := nm.c.def_ 7 (d := d7) rfl; ⟨fd, fn_0 F rfl, F⟩) fun s h u h' e => by cases e
  | 8, hG, hd => cases hG; exact fo8 hd (let ⟨fd, F⟩ := nm.c.def_ 8 (d := d8) rfl; ⟨fd, fn_0 F rfl, F⟩) fun s h u h' e => by cases e
  | 9, hG, hd => cases hG; exact fo9 hd (let ⟨fd, F⟩ := nm.c.def_ 9 (d := d9) rfl; ⟨fd, fn_0 F rfl, F⟩) fun s h u h' e => by cases e
  | 10, hG, hd => cases hG; exact fo10 hd (let ⟨fd, F⟩ := nm.c.def_ 10 (d := d10) rfl; ⟨fd, fn_0 F rfl, F⟩) fun s h u h' e => by cases e
  | 11, hG, hd => cases hG; exact fo11 hd (let ⟨fd, F⟩ := nm.c.def_ 11 (d := d11) rfl; ⟨fd, fn_0 F rfl, F⟩) fun s h u h' e => by cases e
  | 12, hG, hd => cases hG; exact fo12 hd (let ⟨fd, F⟩ := nm.c.def_ 12 (d := d12) rfl; ⟨fd, fn_0 F rfl, F⟩) fun s h u h' e => by cases e
  | 13, hG, hd => cases hG; exact fo13 hd (let ⟨fd, F⟩ := nm.c.def_ 13 (d := d13) rfl; ⟨fd, fn_0 F rfl, F⟩) fun s h u h' e => by cases e
  | 14, hG, hd => cases hG; exact fo14 hd (let ⟨fd, F⟩ := nm.c.def_ 14 (d := d14) rfl; ⟨fd, fn_0 F rfl, F⟩) fun s h u h' e => by cases e
  | 15, hG, hd => cases hG; exact fo15 hd (let ⟨fd, F⟩ := nm.c.def_ 15 (d := d15) rfl; ⟨fd, fn_0 F rfl, F⟩) fun s h u h' e => by cases e
  | 16, hG, hd => cases hG; exact fo16 hd (let ⟨fd, F⟩ := nm.c.def_ 16 (d := d16) rfl; ⟨fd, fn_0 F rfl, F⟩) fun s h u h' e => by cases e
  | 17, hG, hd => cases hG; exact fo17 hd (let ⟨fd, F⟩ := nm.c.def_ 17 (d := d17) rfl; ⟨fd, fn_0 F rfl, F⟩) fun s h u h' e => by cases e
  | 18, hG, hd => cases hG; exact fo18 hd (let ⟨fd, F⟩ := nm.c.def_ 18 (d := d18) rfl; ⟨fd, fn_0 F rfl, F⟩) fun s h u h' e => by cases e
  | 19, hG, hd => cases hG; exact fo19 hd (let ⟨fd, F⟩ := nm.c.def_ 19 (d := d19) rfl; ⟨fd, fn_0 F rfl, F⟩) fun s h u h' e => by cases e
  | 20, hG, hd => cases hG; exact fo20 hd (let ⟨fd, F⟩ := nm.c.def_ 20 (d := d20) rfl; ⟨fd, fn_0 F rfl, F⟩) fun s h u h' e => by cases e
  | 21, hG, hd => cases hG; exact fo21 hd (let ⟨fd, F⟩ := nm.c.def_ 21 (d := d21) rfl; ⟨fd, fn_0 F rfl, F⟩) fun s h u h' e => by cases e
  | 22, hG, hd => cases hG; exact fo22 hd (let ⟨fd, F⟩ := nm.c.def_ 22 (d := d22) rfl; ⟨fd, fn_0 F rfl, F⟩) fun s h u h' e => by cases e
  | 23, hG, hd => cases hG; exact fo23 hd (let ⟨fd, F⟩ := nm.c.def_ 23 (d := d23) rfl; ⟨fd, fn_0 F rfl, F⟩) fun s h u h' e => by cases e
  | 24, hG, hd => cases hG; exact fo24 hd (let ⟨fd, F⟩ := nm.c.def_ 24 (d := d24) rfl; ⟨fd, fn_0 F rfl, F⟩) fun s h u h' e => by cases e
  | 25, hG, hd => cases hG; exact fo25 hd (let ⟨fd, F⟩ := nm.c.def_ 25 (d := d25) rfl; ⟨fd, fn_0 F rfl, F⟩) fun s h u h' e => by cases e
  | 26, hG, hd => cases hG; exact fo26 hd (let ⟨fd, F⟩ := nm.c.def_ 26 (d := d26) rfl; ⟨fd, fn_0 F rfl, F⟩) fun s h u h' e => by cases e
  | 27, hG, hd => cases hG; exact fo27 hd (let ⟨fd, F⟩ := nm.c.def_ 27 (d := d27) rfl; ⟨fd, fn_0 F rfl, F⟩) fun s h u h' e => by cases e
  | 28, hG, hd => cases hG; exact fo28 hd (let ⟨fd, F⟩ := nm.c.def_ 28 (d := d28) rfl; ⟨fd, fn_0 F rfl, F⟩) fun s h u h' e => by cases e
  | 29, hG, hd => cases hG; exact fo29 hd (let ⟨fd, F⟩ := nm.c.def_ 29 (d := d29) rfl; ⟨fd, fn_0 F rfl, F⟩) fun s h u h' e => by cases e
  | 30, hG, hd => cases hG; exact fo30 hd (let ⟨fd, F⟩ := nm.c.def_ 30 (d := d30) rfl; ⟨fd, fn_0 F rfl, F⟩) fun s h u h' e => by cases e
  | 31, hG, hd => cases hG; exact fo31 hd (let ⟨fd, F⟩ := nm.c.def_ 31 (d := d31) rfl; ⟨fd, fn_0 F rfl, F⟩) fun s h u h' e => by cases e
  | 32, hG, hd => cases hG; exact fo32 hd (let ⟨fd, F⟩ := nm.c.def_ 32 (d := d32) rfl; ⟨fd, fn_0 F rfl, F⟩) fun s h u h' e => by cases e
  | 33, hG, hd => cases hG; exact fo33 hd (let ⟨fd, F⟩ := nm.c.def_ 33 (d := d33) rfl; ⟨fd, fn_0 F rfl, F⟩) fun s h u h' e => by cases e
  | 34, hG, hd => cases hG; exact fo34 hd (let ⟨fd, F⟩ := nm.c.def_ 34 (d := d34) rfl; ⟨fd, fn_0 F rfl, F⟩) fun s h u h' e => by cases e
  | 35, hG, hd => cases hG; exact fo35 hd (let ⟨fd, F⟩ := nm.c.def_ 35 (d := d35) rfl; ⟨fd, fn_0 F rfl, F⟩) fun s h u h' e => by cases e
  | 36, hG, hd => cases hG; exact fo36 hd (let ⟨fd, F⟩ := nm.c.def_ 36 (d := d36) rfl; ⟨fd, fn_0 F rfl, F⟩) fun s h u h' e => by cases e
  | 37, hG, hd => cases hG; exact fo37 hd (let ⟨fd, F⟩ := nm.c.def_ 37 (d := d37) rfl; ⟨fd, fn_0 F rfl, F⟩) fun s h u h' e => by cases e
  | 38, hG, hd => cases hG; exact fo38 hd (let ⟨fd, F⟩ := nm.c.def_ 38 (d := d38) rfl; ⟨fd, fn_0 F rfl, F⟩) fun s h u h' e => by cases e
  | 39, hG, hd => cases hG; exact fo39 hd (let ⟨fd, F⟩ := nm.c.def_ 39 (d := d39) rfl; ⟨fd, fn_0 F rfl, F⟩) fun s h u h' e => by cases e
  | 40, hG, hd => cases hG; exact fo40 hd (let ⟨fd, F⟩ := nm.c.def_ 40 (d := d40) rfl; ⟨fd, fn_0 F rfl, F⟩) fun s h u h' e => by cases e
  | 41, hG, hd => cases hG; exact fo41 hd (let ⟨fd, F⟩ := nm.c.def_ 41 (d := d41) rfl; ⟨fd, fn_0 F rfl, F⟩) fun s h u h' e => by cases e
  | 42, hG, hd => cases hG; exact fo42 hd (let ⟨fd, F⟩ := nm.c.def_ 42 (d := d42) rfl; ⟨fd, fn_0 F rfl, F⟩) fun s h u h' e => by cases e
  | 43, hG, hd => cases hG; exact fo43 hd (let ⟨fd, F⟩ := nm.c.def_ 43 (d := d43) rfl; ⟨fd, fn_0 F rfl, F⟩) fun s h u h' e => by cases e
  | 44, hG, hd => cases hG; exact fo44 hd (let ⟨fd, F⟩ := nm.c.def_ 44 (d := d44) rfl; ⟨fd, fn_0 F rfl, F⟩) fun s h u h' e => by cases e
  | 45, hG, hd => cases hG; exact fo45 hd (let ⟨fd, F⟩ := nm.c.def_ 45 (d := d45) rfl; ⟨fd, fn_0 F rfl, F⟩) fun s h u h' e => by cases e
  | 46, hG, hd => cases hG; exact fo46 hd (let ⟨fd, F⟩ := nm.c.def_ 46 (d := d46) rfl; ⟨fd, fn_0 F rfl, F⟩) fun s h u h' e => by cases e
  | 47, hG, hd => cases hG; exact fo47 hd (let ⟨fd, F⟩ := nm.c.def_ 47 (d := d47) rfl; ⟨fd, fn_0 F rfl, F⟩) fun s h u h' e => by cases e
  | 48, hG, hd => cases hG; exact fo48 hd (let ⟨fd, F⟩ := nm.c.def_ 48 (d := d48) rfl; ⟨fd, fn_0 F rfl, F⟩) fun s h u h' e => by cases e
  | 49, hG, hd => cases hG; exact fo49 hd (let ⟨fd, F⟩ := nm.c.def_ 49 (d := d49) rfl; ⟨fd, fn_0 F rfl, F⟩) fun s h u h' e => by cases e
  | 50, hG, hd => cases hG; exact fo50 hd (let ⟨fd, F⟩ := nm.c.def_ 50 (d := d50) rfl; ⟨fd, fn_0 F rfl, F⟩) fun s h u h' e => by cases e
  | 51, hG, hd => cases hG; exact fo51 hd (let ⟨fd, F⟩ := nm.c.def_ 51 (d := d51) rfl; ⟨fd, fn_0 F rfl, F⟩) fun s h u h' e => by cases e
  | 52, hG, hd => cases hG; exact fo52 hd (let ⟨fd, F⟩ := nm.c.def_ 52 (d := d52) rfl; ⟨fd, fn_0 F rfl, F⟩) fun s h u h' e => by cases e
  | 53, hG, hd => cases hG; exact fo53 hd (let ⟨fd, F⟩ := nm.c.def_ 53 (d := d53) rfl; ⟨fd, fn_0 F rfl, F⟩) fun s h u h' e => by cases e
  | 54, hG, hd => cases hG; exact fo54 hd (let ⟨fd, F⟩ := nm.c.def_ 54 (d := d54) rfl; ⟨fd, fn_0 F rfl, F⟩) fun s h u h' e => by cases e
  | 55, hG, hd => cases hG; exact fo55 hd (let ⟨fd, F⟩ := nm.c.def_ 55 (d := d55) rfl; ⟨fd, fn_0 F rfl, F⟩) fun s h u h' e => by cases e
  | 56, hG, hd => cases hG; exact fo56 hd (let ⟨fd, F⟩ := nm.c.def_ 56 (d := d56) rfl; ⟨fd, fn_0 F rfl, F⟩) fun s h u h' e => by cases e
  | 57, hG, hd => cases hG; exact fo57 hd (let ⟨fd, F⟩ := nm.c.def_ 57 (d := d57) rfl; ⟨fd, fn_0 F rfl, F⟩) fun s h u h' e => by cases e
  | 58, hG, hd => cases hG; exact fo58 hd (let ⟨fd, F⟩ := nm.c.def_ 58 (d := d58) rfl; ⟨fd, fn_0 F rfl, F⟩) fun s h u h' e => by cases e
  | 59, hG, hd => cases hG; exact fo59 hd (let ⟨fd, F⟩ := nm.c.def_ 59 (d := d59) rfl; ⟨fd, fn_0 F rfl, F⟩) fun s h u h' e => by cases e
  | f + 60, hG, hd => cases hG
theorem lvS (nm : Nm fa fns ex K mg) (lv : Lv (Cc P w K) Tdf P w K mg base prg (callF prg W d) k) : Lv (Cc P w K) Tdf P w K mg base prg (callF prg W (d + 1)) (k + 3) := by
  refine ⟨fun f A dvs hG hd => ?_, keepK nm, mksK nm, insA nm⟩
  match f, hG, hd with
  | 0, hG, hd => cases hG; exact fo0 hd (up0 nm lv) fun s h u h' e => (callF_len (ps := ["value"]) (i := 0) rfl e).1
  | 1, hG, hd => cases hG; exact fo1 hd (up1 nm lv) fun s h u h' e => (callF_len (ps := ["value"]) (i := 1) rfl e).1
  | 2, hG, hd => cases hG; exact fo2 hd (up2 nm lv) fun s h u h' e => (callF_len (ps := ["value", "many"]) (i := 2) rfl e).1
  | 3, hG, hd => cases hG; exact fo3 hd (up3 nm lv) fun s h u h' e => (callF_len (ps := ["value"]) (i := 3) rfl e).1
  | 4, hG, hd => cases hG; exact fo4 hd (up4 nm lv) fun s h u h' e => (callF_len (ps := ["value", "least", "most"]) (i := 4) rfl e).1
  | 5, hG, hd => cases hG; exact fo5 hd (up5 nm lv) fun s h u h' e => (callF_len (ps := ["value"]) (i := 5) rfl e).1
  | 6, hG, hd => cases hG; exact fo6 hd (up6 nm lv) fun s h u h' e => (callF_len (ps := ["value"]) (i := 6) rfl e).1
  | 7, hG, hd => cases hG; exact fo7 hd (up7 nm lv) fun s h u h' e => (callF_len (ps := ["value"]) (i := 7) rfl e).1
  | 8, hG, hd => cases hG; exact fo8 hd (up8 nm lv) fun s h u h' e => (callF_len (ps := ["value"]) (i := 8) rfl e).1
  | 9, hG, hd => cases hG; exact fo9 hd (up9 nm lv) fun s h u h' e => (callF_len (ps := ["value"]) (i := 9) rfl e).1
  | 10, hG, hd => cases hG; exact fo10 hd (up10 nm lv) fun s h u h' e => (callF_len (ps := ["values"]) (i := 10) rfl e).1
  | 11, hG, hd => cases hG; exact fo11 hd (up11 nm lv) fun s h u h' e => (callF_len (ps := ["message"]) (i := 11) rfl e).1
  | 12, hG, hd => cases hG; exact fo12 hd (up12 nm lv) fun s h u h' e => (callF_len (ps := ["values", "key"]) (i := 12) rfl e).1
  | 13, hG, hd => cases hG; exact fo13 hd (up13 nm lv) fun s h u h' e => (callF_len (ps := ["value", "word"]) (i := 13) rfl e).1
  | 14, hG, hd => cases hG; exact fo14 hd (up14 nm lv) fun s h u h' e => (callF_len (ps := ["value"]) (i := 14) rfl e).1
  | 15, hG, hd => cases hG; exact fo15 hd (up15 nm lv) fun s h u h' e => (callF_len (ps := ["value"]) (i := 15) rfl e).1
  | 16, hG, hd => cases hG; exact fo16 hd (up16 nm lv) fun s h u h' e => (callF_len (ps := ["value"]) (i := 16) rfl e).1
  | 17, hG, hd => cases hG; exact fo17 hd (up17 nm lv) fun s h u h' e => (callF_len (ps := ["value", "least", "most"]) (i := 17) rfl e).1
  | 18, hG, hd => cases hG; exact fo18 hd (up18 nm lv) fun s h u h' e => (callF_len (ps := ["rule"]) (i := 18) rfl e).1
  | 19, hG, hd => cases hG; exact fo19 hd (up19 nm lv) fun s h u h' e => (callF_len (ps := ["rule"]) (i := 19) rfl e).1
  | 20, hG, hd => cases hG; exact fo20 hd (up20 nm lv) fun s h u h' e => (callF_len (ps := ["value"]) (i := 20) rfl e).1
  | 21, hG, hd => cases hG; exact fo21 hd (up21 nm lv) fun s h u h' e => (callF_len (ps := ["world", "value"]) (i := 21) rfl e).1
  | 22, hG, hd => cases hG; exact fo22 hd (up22 nm lv) fun s h u h' e => (callF_len (ps := ["world", "value"]) (i := 22) rfl e).1
  | 23, hG, hd => cases hG; exact fo23 hd (up23 nm lv) fun s h u h' e => (callF_len (ps := ["world", "value"]) (i := 23) rfl e).1
  | 24, hG, hd => cases hG; exact fo24 hd (up24 nm lv) fun s h u h' e => (callF_len (ps := ["value"]) (i := 24) rfl e).1
  | 25, hG, hd => cases hG; exact fo25 hd (up25 nm lv) fun s h u h' e => (callF_len (ps := ["world"]) (i := 25) rfl e).1
  | 26, hG, hd => cases hG; exact fo26 hd (up26 nm lv) fun s h u h' e => (callF_len (ps := ["term", "value", "part", "slots"]) (i := 26) rfl e).1
  | 27, hG, hd => cases hG; exact fo27 hd (up27 nm lv) fun s h u h' e => (callF_len (ps := ["when", "value", "part", "slots"]) (i := 27) rfl e).1
  | 28, hG, hd => cases hG; exact fo28 hd (up28 nm lv) fun s h u h' e => (callF_len (ps := ["part", "state", "slots", "word", "value"]) (i := 28) rfl e).1
  | 29, hG, hd => cases hG; exact fo29 hd (up29 nm lv) fun s h u h' e => (callF_len (ps := ["world", "standing", "right", "value"]) (i := 29) rfl e).1
  | 30, hG, hd => cases hG; exact fo30 hd (up30 nm lv) fun s h u h' e => (callF_len (ps := ["world", "standing", "name"]) (i := 30) rfl e).1
  | 31, hG, hd => cases hG; exact fo31 hd (up31 nm lv) fun s h u h' e => (callF_len (ps := ["air"]) (i := 31) rfl e).1
  | 32, hG, hd => cases hG; exact fo32 hd (up32 nm lv) fun s h u h' e => (callF_len (ps := ["rows"]) (i := 32) rfl e).1
  | 33, hG, hd => cases hG; exact fo33 hd (up33 nm lv) fun s h u h' e => (callF_len (ps := ["world"]) (i := 33) rfl e).1
  | 34, hG, hd => cases hG; exact fo34 hd (up34 nm lv) fun s h u h' e => (callF_len (ps := ["air", "messages"]) (i := 34) rfl e).1
  | 35, hG, hd => cases hG; exact fo35 hd (up35 nm lv) fun s h u h' e => (callF_len (ps := ["air", "message"]) (i := 35) rfl e).1
  | 36, hG, hd => cases hG; exact fo36 hd (up36 nm lv) fun s h u h' e => (callF_len (ps := ["world", "value"]) (i := 36) rfl e).1
  | 37, hG, hd => cases hG; exact fo37 hd (up37 nm lv) fun s h u h' e => (callF_len (ps := ["world", "spot", "deed"]) (i := 37) rfl e).1
  | 38, hG, hd => cases hG; exact fo38 hd (up38 nm lv) fun s h u h' e => (callF_len (ps := ["world", "spot", "deed"]) (i := 38) rfl e).1
  | 39, hG, hd => cases hG; exact fo39 hd (up39 nm lv) fun s h u h' e => (callF_len (ps := ["world", "value"]) (i := 39) rfl e).1
  | 40, hG, hd => cases hG; exact fo40 hd (up40 nm lv) fun s h u h' e => (callF_len (ps := ["world", "value"]) (i := 40) rfl e).1
  | 41, hG, hd => cases hG; exact fo41 hd (up41 nm lv) fun s h u h' e => (callF_len (ps := ["world", "value"]) (i := 41) rfl e).1
  | 42, hG, hd => cases hG; exact fo42 hd (up42 nm lv) fun s h u h' e => (callF_len (ps := ["world", "value"]) (i := 42) rfl e).1
  | 43, hG, hd => cases hG; exact fo43 hd (up43 nm lv) fun s h u h' e => (callF_len (ps := ["world", "value"]) (i := 43) rfl e).1
  | 44, hG, hd => cases hG; exact fo44 hd (up44 nm lv) fun s h u h' e => (callF_len (ps := ["world", "value"]) (i := 44) rfl e).1
  | 45, hG, hd => cases hG; exact fo45 hd (up45 nm lv) fun s h u h' e => (callF_len (ps := ["world", "deeds", "spot"]) (i := 45) rfl e).1
  | 46, hG, hd => cases hG; exact fo46 hd (up46 nm lv) fun s h u h' e => (callF_len (ps := ["script"]) (i := 46) rfl e).1
  | 47, hG, hd => cases hG; exact fo47 hd (up47 nm lv) fun s h u h' e => (callF_len (ps := ["pen", "many"]) (i := 47) rfl e).1
  | 48, hG, hd => cases hG; exact fo48 hd (up48 nm lv) fun s h u h' e => (callF_len (ps := ["pen", "some"]) (i := 48) rfl e).1
  | 49, hG, hd => cases hG; exact fo49 hd (up49 nm lv) fun s h u h' e => (callF_len (ps := ["rule_rows", "holds", "value"]) (i := 49) rfl e).1
  | 50, hG, hd => cases hG; exact fo50 hd (up50 nm lv) fun s h u h' e => (callF_len (ps := ["script"]) (i := 50) rfl e).1
  | 51, hG, hd => cases hG; exact fo51 hd (up51 nm lv) fun s h u h' e => (callF_len (ps := ["self", "state", "word", "whens", "acts", "later"]) (i := 51) rfl e).1
  | 52, hG, hd => cases hG; exact fo52 hd (up52 nm lv) fun s h u h' e => (callF_len (ps := ["self", "other"]) (i := 52) rfl e).1
  | 53, hG, hd => cases hG; exact fo53 hd (up53 nm lv) fun s h u h' e => (callF_len (ps := ["self", "name", "words", "states", "slots", "begin", "rules"]) (i := 53) rfl e).1
  | 54, hG, hd => cases hG; exact fo54 hd (up54 nm lv) fun s h u h' e => (callF_len (ps := ["self", "other"]) (i := 54) rfl e).1
  | 55, hG, hd => cases hG; exact fo55 hd (up55 nm lv) fun s h u h' e => (callF_len (ps := ["self", "name", "words", "is_friend", "holds"]) (i := 55) rfl e).1
  | 56, hG, hd => cases hG; exact fo56 hd (up56 nm lv) fun s h u h' e => (callF_len (ps := ["self", "other"]) (i := 56) rfl e).1
  | 57, hG, hd => cases hG; exact fo57 hd (up57 nm lv) fun s h u h' e => (callF_len (ps := ["self", "marks", "parts", "people"]) (i := 57) rfl e).1
  | 58, hG, hd => cases hG; exact fo58 hd (up58 nm lv) fun s h u h' e => (callF_len (ps := ["self", "value"]) (i := 58) rfl e).1
  | 59, hG, hd => cases hG; exact fo59 hd (up59 nm lv) fun s h u h' e => (callF_len (ps := ["self", "other"]) (i := 59) rfl e).1
  | f + 60, hG, hd => cases hG
theorem lvD (nm : Nm fa fns ex K mg) : ∀ d, Lv (Cc P w K) Tdf P w K mg base prg (callF prg W d) (3 * d)
  | 0 => lv0 nm
  | d + 1 => lvS nm (lvD nm d)
end
end
end VI.K
namespace VI.K
open PySem PySem.Spec PyProof.Rows L2 VI
noncomputable section
/-! ### the pen -/
/-- a draw -/
def spDraw : Sp := fun vs H Q _ => ∃ l s many, vs = [.ref l, .int many] ∧ H l = some (.lst [.int s]) ∧ 1 ≤ many ∧ ∀ r s', 0 ≤ r → r < many → Q (.int r) (upd H l (.lst [.int s']))
section
variable {P : Program} {w : World} {K : PySem.W.Frag} {mg : Str → Option Value} {base : Heap} {f : Addr} {fd : FuncData}
theorem ok_draw (F : FunD K "_law_draw" "_law_draw" a47 b47 s47 [] [] f fd) (gI : mg "int" = none) : FnOk P w K mg base CXn 1 f fd ["pen", "many"] spDraw := by
  refine F.ok (N := N47) sc47 (fun vs H Q E h => ?_) fun cdv A outer s H vs Q E hr h => ?_
  · obtain ⟨l, s, many, rfl, _⟩ := h
    rfl
  · obtain ⟨l, sd, many, rfl, hl, hm, q⟩ := h
    refine ⟨_, PSs.nox (pss_cons (ps_if (pt_cmpR op_lt (pv 1) pe_int (nomark _)) (pss_one (ps_ret pe_int)) pss_nil) (pss_cons (ps_asg (pe_op op_mod (pe_callTy call_int1 rfl gI bo_int (pa_cons (pe_op op_add (pe_op op_mul (pe_ix ix_list (pv 0) pe_int (by intro _ _; rfl)) pe_int) pe_int) pa_nil)) (pe_op op_pow pe_int pe_int)) (pg_sub (pv 0) pe_int set_list)) (pss_one (ps_ret (pe_op op_mod (pe_callTy call_int1 rfl gI bo_int (pa_cons (pe_op op_fdiv (pe_ix ix_list (pv 0) pe_int (by intro _ _; rfl)) pe_int) pa_nil)) (pv 1)))))), ?_⟩
    have lt : decide (many < 1) = false := decide_eq_false (by omega)
    refine ⟨.int many, rfl, many, 1, rfl, rfl, decide (many < 1), rfl, ?_⟩
    rw [lt]
    refine ⟨.ref l, rfl, l, [.int sd], 0, .int sd, rfl, rfl, .inl (.inl hl), rfl, ?_⟩
    refine ⟨sd, 6364136223846793005, rfl, rfl, .inr ⟨by omega, by omega⟩, ?_⟩
    refine ⟨_, _, rfl, rfl, ?_⟩
    refine .inl ⟨_, rfl, ?_⟩
    refine ⟨2, 64, rfl, rfl, ⟨by decide, by decide, by decide⟩, ?_⟩
    refine ⟨_, _, rfl, rfl, (by show (0 : Int) < 2 ^ 64; decide), ?_⟩
    refine ⟨.ref l, rfl, l, [.int sd], 0, 0, rfl, rfl, hl, rfl, ?_⟩
    refine ⟨.ref l, rfl, l, [.int ((sd * 6364136223846793005 + 1442695040888963407) % 2 ^ Int.toNat 64)], 0, _, rfl, rfl, .inl (.inl upd_same), rfl, ?_⟩
    refine ⟨(sd * 6364136223846793005 + 1442695040888963407) % 2 ^ Int.toNat 64, 65537, rfl, rfl, ⟨by decide, by decide⟩, ?_⟩
    refine .inl ⟨_, rfl, ?_⟩
    refine ⟨.int many, rfl, _, many, rfl, rfl, (by show (0 : Int) < many; omega), ?_⟩
    exact q _ _ (Int.emod_nonneg _ (by omega)) (Int.emod_lt_of_pos _ (by omega))
/-- the pen: some number -/
def spPen (K : PySem.W.Frag) : Sp := fun vs H Q _ => ∃ (a : Addr) (ns : List Int), vs = [.ref a] ∧ SqL K H a (ns.map V.int) ∧ ∀ l s, H l = none → Q (.ref l) (upd H l (.lst [.int s]))
theorem ok_pen (F : FunD K "_law_pen" "_law_pen" a46 b46 s46 [] [] f fd) (gI : mg "int" = none) : FnOk P w K mg base CXn 1 f fd ["script"] (spPen K) := by
  refine F.ok (N := N46) sc46 (fun vs H Q E h => ?_) fun cdv A outer s H vs Q E hr h => ?_
  · obtain ⟨a, ns, rfl, _⟩ := h
    rfl
  · obtain ⟨a, ns, rfl, hS, q⟩ := h
    refine ⟨_, PSs.nox (pss_cons (ps_asg pe_int (pg_name (i := 1) sc46.nd rfl (Or.inl rfl))) (pss_cons (ps_for PassesOwn.never rfl (pi_list (pv 0)) (pg_name (i := 2) sc46.nd rfl (Or.inl rfl)) (pss_one (ps_asg (pe_op op_mod (pe_callTy call_int1 rfl gI bo_int (pa_cons (pe_op op_add (pe_op op_add (pe_op op_mul (pv 1) pe_int) (pe_op op_mod (pe_callTy call_int1 rfl gI bo_int (pa_cons (pv 2) pa_nil)) (pe_op op_pow pe_int pe_int))) pe_int) pa_nil)) (pe_op op_sub (pe_op op_pow pe_int pe_int) pe_int)) (pg_name (i := 1) sc46.nd rfl (Or.inl rfl))))) (pss_one (ps_ret (pe_lst (pa_cons (pv 1) pa_nil)))))), ?_⟩
    refine ⟨.ref a, rfl, a, rfl, ⟨_, hS⟩, fun i m σ H' => H' = H ∧ m = ns.length - i ∧ i ≤ ns.length ∧ ∃ (z : Int) (c : Option V), σ = [some (.ref a), some (.int z), c], ⟨_, rfl, rfl, Nat.zero_le _, 83417, none, rfl⟩, ?_⟩
    rintro i m σ H' ⟨rfl, rfl, hi, z, c, rfl⟩
    by_cases hlt : i < ns.length
    · refine .inr ⟨⟨_, .int ns[i], hS, by rw [List.getElem?_map, List.getElem?_eq_getElem hlt]; rfl⟩, fun σ2 H2 => H2 = H' ∧ ∃ (z : Int) (c : Option V), σ2 = [some (.ref a), some (.int z), c], ?_, ?_⟩
      · rintro σ2 H2 ⟨rfl, z2, c2, rfl⟩
        exact ⟨_, by omega, rfl, rfl, by omega, z2, c2, rfl⟩
      · rintro x H2 ⟨rfl, hx⟩
        have ex := hx _ hS
        rw [List.getElem?_map, List.getElem?_eq_getElem hlt] at ex
        cases ex
        refine ⟨.int z, rfl, z, 1000003, rfl, rfl, .inr ⟨by omega, by omega⟩, ?_⟩
        refine ⟨.int ns[i], rfl, .inl ⟨_, rfl, ?_⟩⟩
        refine ⟨10, 18, rfl, rfl, ⟨by decide, by decide, by decide⟩, ?_⟩
        refine ⟨_, _, rfl, rfl, (by show (0 : Int) < 10 ^ 18; decide), ?_⟩
        refine ⟨_, _, rfl, rfl, ?_⟩
        refine ⟨_, _, rfl, rfl, ?_⟩
        refine .inl ⟨_, rfl, ?_⟩
        refine ⟨2, 61, rfl, rfl, ⟨by decide, by decide, by decide⟩, ?_⟩
        refine ⟨_, _, rfl, rfl, ?_⟩
        refine ⟨_, _, rfl, rfl, (by show (0 : Int) < 2 ^ 61 - 1; decide), ?_⟩
        exact ⟨rfl, _, _, rfl⟩
    · refine .inl ⟨⟨_, hS, by rw [List.length_map]; omega⟩, ?_⟩
      refine ⟨.int z, rfl, ?_⟩
      exact ⟨by show 1 ≤ sizeLine; decide, fun l hl => q l z hl⟩
/-- an item by a draw -/
def spPick : Sp := fun vs H Q _ => ∃ (l b : Addr) (o : Obj) (s : Int) (xs : List V), vs = [.ref l, .ref b] ∧ H l = some (.lst [.int s]) ∧ H b = some (.frz o (.lst xs)) ∧ xs ≠ [] ∧ ∀ (i : Nat) (x : V) (s' : Int), xs[i]? = some x → Q x (upd H l (.lst [.int s']))
theorem ok_pick {fD : Addr} {fdD : FuncData} (F : FunD K "_law_pick" "_law_pick" a48 b48 s48 [] [] f fd) (FD : FunD K "_law_draw" "_law_draw" a47 b47 s47 [] [] fD fdD) (gI : mg "int" = none) (gL : mg "len" = none) (gD : mg "_law_draw" = some (.ref fD)) : FnOk P w K mg base CXn 2 f fd ["pen", "some"] spPick := by
  have GD : FnOk P w K mg base CXn 1 fD fdD ["pen", "many"] spDraw := ok_draw FD gI
  have bD : Binds K fdD ["pen", "many"] [] := FD.bindsN fun _ _ _ _ _ _ us hl => match us, hl with | [_, _], _ => rfl
  refine F.ok (N := N48) sc48 (fun vs H Q E h => ?_) fun cdv A outer s H vs Q E hr h => ?_
  · obtain ⟨l, b, o, s, xs, rfl, _⟩ := h
    rfl
  · obtain ⟨l, b, o, sd, xs, rfl, hl, hb, hne, q⟩ := h
    refine ⟨_, PSs.nox (pss_one (ps_ret (pe_ix ix_list (pv 1) (pe_call (E := fun _ _ _ => False) GD hr rfl gD FD.kp bD .nil (fun _ _ _ _ _ _ _ z => z.elim) (pa_cons (pv 0) (pa_cons (pe_callB call_len rfl gL bo_len (pa_cons (pv 1) pa_nil)) pa_nil))) (by intro _ _; rfl)))), ?_⟩
    refine ⟨.ref b, rfl, .ref l, rfl, .ref b, rfl, .ref b, xs.length, rfl, .inl ⟨xs, .inl (.inr ⟨o, hb⟩), rfl⟩, ?_⟩
    have hpos : 0 < xs.length := List.length_pos_iff.mpr hne
    refine ⟨l, sd, xs.length, rfl, hl, by omega, fun r s' h0 h1 => ?_⟩
    have hlb : b ≠ l := fun z => by rw [z, hl] at hb; cases hb
    obtain ⟨j, rfl⟩ := Int.eq_ofNat_of_zero_le h0
    have hj : j < xs.length := by omega
    refine ⟨b, xs, j, xs[j], rfl, rfl, .inl (.inr ⟨o, by rw [upd_ne hlb]; exact hb⟩), ?_, q j _ s' (List.getElem?_eq_getElem hj)⟩
    unfold atI ixN
    rw [if_pos (by omega), if_pos (by omega)]
    show (some (Int.toNat (j : Int))).bind _ = _
    rw [Int.toNat_natCast]
    exact List.getElem?_eq_getElem hj
end
end
end VI.K
namespace VI.K
open PySem PySem.Spec PyProof.Rows L2 VI
noncomputable section
section
variable {k W : Nat} {call : Nat → U → VH → VR} {P : Program} {w : World} {K : PySem.W.Frag} {mg : Str → Option Value} {base : Heap}
abbrev XL (P : Program) (w : World) (K : PySem.W.Frag) (mg : Str → Option Value) (base : Heap) (f : Addr) (cdv : Value) (A : Around) (outer : List Env) (s : Shared) (H : Hp) (E : XK) : Cx := (cxOf CXn P w K mg base N50 "law" s50 f cdv A outer s H E).nox
def ls0 : Stmt := (⟨_, by conv => lhs; whnf⟩ : { s : Stmt // b50.getD 0 (.Pass ⟨0, 0, 0, 0⟩) = s }).1
def ls1 : Stmt := (⟨_, by conv => lhs; whnf⟩ : { s : Stmt // b50.getD 1 (.Pass ⟨0, 0, 0, 0⟩) = s }).1
def lv_1 : VSt := (.asg (.var 2) (.vls (.cons (.tup (.cons (.cst (.str 1014571355062824599660)) (.cons (.cst (.str 110)) .nil))) (.cons (.tup (.cons (.cst (.str 1014571355062824599660)) (.cons (.cst (.str 111)) .nil))) (.cons (.tup (.cons (.cst (.str 245366896)) (.cons (.cst (.str 435406839480419)) (.cons (.cst (.str 435406839480441)) .nil)))) (.cons (.tup (.cons (.cst (.str 245366896)) (.cons (.cst (.str 113)) (.cons (.cst (.str 120)) .nil)))) .nil))))))
theorem lawS1 (nm : Nm fa fns ex K mg) {f : Addr} {cdv : Value} {A : Around} {outer : List Env} {s : Shared} {H : Hp} {E : XK} (e : Ev (Cc P w K) Tdf (XL P w K mg base f cdv A outer s H E) prg call k) (hgd : (XL P w K mg base f cdv A outer s H E).A.guards = some []) : SX (Cc P w K) (XL P w K mg base f cdv A outer s H E) prg call W ls1 lv_1 :=
  (q_asg (r_vls (l_cons (r_tup (l_cons (r_str z1) (l_cons (r_str z34) l_nil))) (l_cons (r_tup (l_cons (r_str z1) (l_cons (r_str z33) l_nil))) (l_cons (r_tup (l_cons (r_str z2) (l_cons (r_str z32) (l_cons (r_str z31) l_nil)))) (l_cons (r_tup (l_cons (r_str z2) (l_cons (r_str z30) (l_cons (r_str z29) l_nil)))) l_nil))))) (g_var e.nd (by rfl) (by first | exact Or.inl rfl | exact Or.inr rfl)))
def ls2 : Stmt := (⟨_, by conv => lhs; whnf⟩ : { s : Stmt // b50.getD 2 (.Pass ⟨0, 0, 0, 0⟩) = s }).1
def lv_2 : VSt := (.asg (.tup (.cons (.var 3) (.cons (.var 4) (.cons (.var 5) .nil)))) (.tup (.cons (.tup (.cons (.cst (.str 245366896)) (.cons (.cst (.str 435406839480419)) (.cons (.cst (.str 435406839480441)) .nil)))) (.cons (.tup (.cons (.cst (.str 1014571355062824599660)) (.cons (.cst (.str 110)) .nil))) (.cons (.tup (.cons (.cst (.str 1014571355062824599660)) (.cons (.cst (.str 111)) .nil))) .nil)))))
theorem lawS2 (nm : Nm fa fns ex K mg) {f : Addr} {cdv : Value} {A : Around} {outer : List Env} {s : Shared} {H : Hp} {E : XK} (e : Ev (Cc P w K) Tdf (XL P w K mg base f cdv A outer s H E) prg call k) (hgd : (XL P w K mg base f cdv A outer s H E).A.guards = some []) : SX (Cc P w K) (XL P w K mg base f cdv A outer s H E) prg call W ls2 lv_2 :=
  (q_asg (r_tup (l_cons (r_tup (l_cons (r_str z2) (l_cons (r_str z32) (l_cons (r_str z31) l_nil)))) (l_cons (r_tup (l_cons (r_str z1) (l_cons (r_str z34) l_nil))) (l_cons (r_tup (l_cons (r_str z1) (l_cons (r_str z33) l_nil))) l_nil)))) (g_tup e.calm (g_cons (g_var e.nd (by rfl) (by first | exact Or.inl rfl | exact Or.inr rfl)) (g_cons (g_var e.nd (by rfl) (by first | exact Or.inl rfl | exact Or.inr rfl)) (g_cons (g_var e.nd (by rfl) (by first | exact Or.inl rfl | exact Or.inr rfl)) g_nil))) (asg_lenS (asg_lenS (asg_lenS asg_len0)))))
def ls3 : Stmt := (⟨_, by conv => lhs; whnf⟩ : { s : Stmt // b50.getD 3 (.Pass ⟨0, 0, 0, 0⟩) = s }).1
def lpE3 : Expr := (⟨_, by conv => lhs; whnf⟩ : { s : Expr // (match ls3 with | .Assign _ (.Call _ [_, a] _ _) _ => a | _ => .Constant .none 0 ⟨0, 0, 0, 0⟩) = s }).1
def lpv3 : VE := (.vls (.cons (.cst .non) (.cons (.var 4) (.cons (.var 5) (.cons (.var 3) (.cons (.tup (.cons (.cst (.str 245366896)) (.cons (.cst (.str 113)) (.cons (.cst (.str 120)) .nil)))) .nil))))))
theorem lawL3 (nm : Nm fa fns ex K mg) {f : Addr} {cdv : Value} {A : Around} {outer : List Env} {s : Shared} {H : Hp} {E : XK} (e : Ev (Cc P w K) Tdf (XL P w K mg base f cdv A outer s H E) prg call k) (hgd : (XL P w K mg base f cdv A outer s H E).A.guards = some []) : SE (Cc P w K) (XL P w K mg base f cdv A outer s H E) lpE3 (ev prg call lpv3) :=
  (r_vls (l_cons r_non (l_cons (vv 4) (l_cons (vv 5) (l_cons (vv 3) (l_cons (r_tup (l_cons (r_str z2) (l_cons (r_str z30) (l_cons (r_str z29) l_nil)))) l_nil))))))
def ls4 : Stmt := (⟨_, by conv => lhs; whnf⟩ : { s : Stmt // b50.getD 4 (.Pass ⟨0, 0, 0, 0⟩) = s }).1
def lv_4 : VSt := (.asg (.tup (.cons (.var 7) (.cons (.var 8) .nil))) (.tup (.cons (.tup (.cons (.var 3) (.cons (.cst .non) .nil))) (.cons (.tup (.cons (.cst (.str 117)) (.cons (.tup (.cons (.var 3) (.cons (.var 6) .nil))) .nil))) .nil))))
theorem lawS4 (nm : Nm fa fns ex K mg) {f : Addr} {cdv : Value} {A : Around} {outer : List Env} {s : Shared} {H : Hp} {E : XK} (e : Ev (Cc P w K) Tdf (XL P w K mg base f cdv A outer s H E) prg call k) (hgd : (XL P w K mg base f cdv A outer s H E).A.guards = some []) : SX (Cc P w K) (XL P w K mg base f cdv A outer s H E) prg call W ls4 lv_4 :=
  (q_par e (i := 7) (j := 8) (by rfl) (by rfl) (by decide) rfl rfl (l_cons (r_tup (l_cons (vv 3) (l_cons r_non l_nil))) (l_cons (r_tup (l_cons (r_str z37) (l_cons (r_tup (l_cons (vv 3) (l_cons (vv 6) l_nil))) l_nil))) l_nil)))
def ls5 : Stmt := (⟨_, by conv => lhs; whnf⟩ : { s : Stmt // b50.getD 5 (.Pass ⟨0, 0, 0, 0⟩) = s }).1
def lv_5 : VSt := (.asg (.var 9) (.vls (.cons (.tup (.cons (.vls .nil) (.cons (.var 6) (.cons (.tup (.cons (.cst (.str 116)) (.cons (.var 7) .nil))) (.cons (.tup .nil) .nil))))) (.cons (.tup (.cons (.vls (.cons (.tup (.cons (.cst (.str 116)) (.cons (.cst (.str 119)) (.cons (.vls .nil) (.cons (.vls .nil) (.cons (.cst (.str 117)) .nil)))))) .nil)) (.cons (.var 6) (.cons (.tup (.cons (.cst (.str 116)) (.cons (.var 7) .nil))) (.cons (.tup .nil) .nil))))) (.cons (.tup (.cons (.vls (.cons (.tup (.cons (.cst (.str 117)) (.cons (.cst (.str 120)) (.cons (.vls .nil) (.cons (.vls .nil) (.cons (.cst (.str 117)) .nil)))))) .nil)) (.cons (.var 6) (.cons (.tup (.cons (.cst (.str 116)) (.cons (.var 7) .nil))) (.cons (.tup .nil) .nil))))) (.cons (.tup (.cons (.vls (.cons (.tup (.cons (.cst (.str 116)) (.cons (.cst (.str 120)) (.cons (.vls .nil) (.cons (.vls .nil) (.cons (.cst (.str 117)) .nil)))))) .nil)) (.cons (.var 6) (.cons (.tup (.cons (.cst (.str 117)) (.cons (.var 7) .nil))) (.cons (.tup .nil) .nil))))) .nil))))))
theorem lawS5 (nm : Nm fa fns ex K mg) {f : Addr} {cdv : Value} {A : Around} {outer : List Env} {s : Shared} {H : Hp} {E : XK} (e : Ev (Cc P w K) Tdf (XL P w K mg base f cdv A outer s H E) prg call k) (hgd : (XL P w K mg base f cdv A outer s H E).A.guards = some []) : SX (Cc P w K) (XL P w K mg base f cdv A outer s H E) prg call W ls5 lv_5 :=
  (q_asg (r_vls (l_cons (r_tup (l_cons (r_vls l_nil) (l_cons (vv 6) (l_cons (r_tup (l_cons (r_str z38) (l_cons (vv 7) l_nil))) (l_cons (r_tup l_nil) l_nil))))) (l_cons (r_tup (l_cons (r_vls (l_cons (r_tup (l_cons (r_str z38) (l_cons (r_str z39) (l_cons (r_vls l_nil) (l_cons (r_vls l_nil) (l_cons (r_str z37) l_nil)))))) l_nil)) (l_cons (vv 6) (l_cons (r_tup (l_cons (r_str z38) (l_cons (vv 7) l_nil))) (l_cons (r_tup l_nil) l_nil))))) (l_cons (r_tup (l_cons (r_vls (l_cons (r_tup (l_cons (r_str z37) (l_cons (r_str z29) (l_cons (r_vls l_nil) (l_cons (r_vls l_nil) (l_cons (r_str z37) l_nil)))))) l_nil)) (l_cons (vv 6) (l_cons (r_tup (l_cons (r_str z38) (l_cons (vv 7) l_nil))) (l_cons (r_tup l_nil) l_nil))))) (l_cons (r_tup (l_cons (r_vls (l_cons (r_tup (l_cons (r_str z38) (l_cons (r_str z29) (l_cons (r_vls l_nil) (l_cons (r_vls l_nil) (l_cons (r_str z37) l_nil)))))) l_nil)) (l_cons (vv 6) (l_cons (r_tup (l_cons (r_str z37) (l_cons (vv 7) l_nil))) (l_cons (r_tup l_nil) l_nil))))) l_nil))))) (g_var e.nd (by rfl) (by first | exact Or.inl rfl | exact Or.inr rfl)))
def ls6 : Stmt := (⟨_, by conv => lhs; whnf⟩ : { s : Stmt // b50.getD 6 (.Pass ⟨0, 0, 0, 0⟩) = s }).1
def lv_6 : VSt := (.asg (.var 9) (.bin 0 (.var 9) (.vls (.cons (.tup (.cons (.vls (.cons (.tup (.cons (.cst (.str 116)) (.cons (.cst (.str 120)) (.cons (.vls .nil) (.cons (.vls (.cons (.tup (.cons (.cst (.str 996124628581273829489)) (.cons (.cst (.str 109)) (.cons (.tup (.cons (.cst (.str 431008799260776)) .nil)) .nil)))) .nil)) (.cons (.cst (.str 117)) .nil)))))) .nil)) (.cons (.var 6) (.cons (.var 8) (.cons (.tup .nil) .nil))))) (.cons (.tup (.cons (.vls (.cons (.tup (.cons (.cst (.str 116)) (.cons (.cst (.str 120)) (.cons (.vls .nil) (.cons (.vls (.cons (.tup (.cons (.cst (.str 996124628581273829489)) (.cons (.cst (.str 109)) (.cons (.tup (.cons (.cst (.str 1069911635662458585205)) (.cons (.cst (.str 108)) .nil))) .nil)))) (.cons (.tup (.cons (.cst (.str 996124628581273829489)) (.cons (.cst (.str 108)) (.cons (.tup (.cons (.cst (.str 1069911635662458585205)) (.cons (.cst (.str 109)) .nil))) .nil)))) .nil))) (.cons (.cst (.str 116)) .nil)))))) .nil)) (.cons (.var 6) (.cons (.tup (.cons (.cst (.str 116)) (.cons (.tup (.cons (.cst .non) (.cons (.var 3) .nil))) .nil))) (.cons (.tup .nil) .nil))))) .nil)))))
theorem lawS6 (nm : Nm fa fns ex K mg) {f : Addr} {cdv : Value} {A : Around} {outer : List Env} {s : Shared} {H : Hp} {E : XK} (e : Ev (Cc P w K) Tdf (XL P w K mg base f cdv A outer s H E) prg call k) (hgd : (XL P w K mg base f cdv A outer s H E).A.guards = some []) : SX (Cc P w K) (XL P w K mg base f cdv A outer s H E) prg call W ls6 lv_6 :=
  (q_asg (r_add (vv 9) (r_vls (l_cons (r_tup (l_cons (r_vls (l_cons (r_tup (l_cons (r_str z38) (l_cons (r_str z29) (l_cons (r_vls l_nil) (l_cons (r_vls (l_cons (r_tup (l_cons (r_str z9) (l_cons (r_str z35) (l_cons (r_tup (l_cons (r_str z4) l_nil)) l_nil)))) l_nil)) (l_cons (r_str z37) l_nil)))))) l_nil)) (l_cons (vv 6) (l_cons (vv 8) (l_cons (r_tup l_nil) l_nil))))) (l_cons (r_tup (l_cons (r_vls (l_cons (r_tup (l_cons (r_str z38) (l_cons (r_str z29) (l_cons (r_vls l_nil) (l_cons (r_vls (l_cons (r_tup (l_cons (r_str z9) (l_cons (r_str z35) (l_cons (r_tup (l_cons (r_str z3) (l_cons (r_str z36) l_nil))) l_nil)))) (l_cons (r_tup (l_cons (r_str z9) (l_cons (r_str z36) (l_cons (r_tup (l_cons (r_str z3) (l_cons (r_str z35) l_nil))) l_nil)))) l_nil))) (l_cons (r_str z38) l_nil)))))) l_nil)) (l_cons (vv 6) (l_cons (r_tup (l_cons (r_str z38) (l_cons (r_tup (l_cons r_non (l_cons (vv 3) l_nil))) l_nil))) (l_cons (r_tup l_nil) l_nil))))) l_nil)))) (g_var e.nd (by rfl) (by first | exact Or.inl rfl | exact Or.inr rfl)))
def ls7 : Stmt := (⟨_, by conv => lhs; whnf⟩ : { s : Stmt // b50.getD 7 (.Pass ⟨0, 0, 0, 0⟩) = s }).1
def lv_7 : VSt := (.asg (.var 9) (.bin 0 (.var 9) (.vls (.cons (.tup (.cons (.vls (.cons (.tup (.cons (.cst (.str 116)) (.cons (.cst (.str 120)) (.cons (.vls .nil) (.cons (.vls (.cons (.tup (.cons (.cst (.str 1069911604876130910309)) (.cons (.tup (.cons (.cst (.str 1069911635662458585205)) (.cons (.cst (.str 108)) .nil))) (.cons (.tup (.cons (.cst (.str 431008799260776)) .nil)) .nil)))) .nil)) (.cons (.cst (.str 116)) .nil)))))) .nil)) (.cons (.var 6) (.cons (.tup (.cons (.cst (.str 116)) (.cons (.var 7) .nil))) (.cons (.tup (.cons (.tup (.cons (.var 3) (.cons (.var 6) (.cons (.cst (.int (1))) .nil)))) .nil)) .nil))))) (.cons (.tup (.cons (.vls (.cons (.tup (.cons (.cst (.str 116)) (.cons (.cst (.str 120)) (.cons (.vls .nil) (.cons (.vls (.cons (.tup (.cons (.cst (.str 1069911604876130910309)) (.cons (.tup (.cons (.cst (.str 1069911635662458585205)) (.cons (.cst (.str 108)) .nil))) (.cons (.var 4) .nil)))) (.cons (.tup (.cons (.cst (.str 996124628581273829489)) (.cons (.cst (.str 108)) (.cons (.cst .non) .nil)))) (.cons (.tup (.cons (.cst (.str 1069911604876130910309)) (.cons (.tup (.cons (.cst (.str 1069911635662458585205)) (.cons (.cst (.str 108)) .nil))) (.cons (.var 4) .nil)))) .nil)))) (.cons (.cst (.str 117)) .nil)))))) .nil)) (.cons (.var 6) (.cons (.tup (.cons (.cst (.str 117)) (.cons (.tup (.cons (.cst .non) (.cons (.cst .non) .nil))) .nil))) (.cons (.tup (.cons (.tup (.cons (.var 3) (.cons (.var 4) (.cons (.cst (.int (2))) .nil)))) .nil)) .nil))))) .nil)))))
theorem lawS7 (nm : Nm fa fns ex K mg) {f : Addr} {cdv : Value} {A : Around} {outer : List Env} {s : Shared} {H : Hp} {E : XK} (e : Ev (Cc P w K) Tdf (XL P w K mg base f cdv A outer s H E) prg call k) (hgd : (XL P w K mg base f cdv A outer s H E).A.guards = some []) : SX (Cc P w K) (XL P w K mg base f cdv A outer s H E) prg call W ls7 lv_7 :=
  (q_asg (r_add (vv 9) (r_vls (l_cons (r_tup (l_cons (r_vls (l_cons (r_tup (l_cons (r_str z38) (l_cons (r_str z29) (l_cons (r_vls l_nil) (l_cons (r_vls (l_cons (r_tup (l_cons (r_str z8) (l_cons (r_tup (l_cons (r_str z3) (l_cons (r_str z36) l_nil))) (l_cons (r_tup (l_cons (r_str z4) l_nil)) l_nil)))) l_nil)) (l_cons (r_str z38) l_nil)))))) l_nil)) (l_cons (vv 6) (l_cons (r_tup (l_cons (r_str z38) (l_cons (vv 7) l_nil))) (l_cons (r_tup (l_cons (r_tup (l_cons (vv 3) (l_cons (vv 6) (l_cons r_int l_nil)))) l_nil)) l_nil))))) (l_cons (r_tup (l_cons (r_vls (l_cons (r_tup (l_cons (r_str z38) (l_cons (r_str z29) (l_cons (r_vls l_nil) (l_cons (r_vls (l_cons (r_tup (l_cons (r_str z8) (l_cons (r_tup (l_cons (r_str z3) (l_cons (r_str z36) l_nil))) (l_cons (vv 4) l_nil)))) (l_cons (r_tup (l_cons (r_str z9) (l_cons (r_str z36) (l_cons r_non l_nil)))) (l_cons (r_tup (l_cons (r_str z8) (l_cons (r_tup (l_cons (r_str z3) (l_cons (r_str z36) l_nil))) (l_cons (vv 4) l_nil)))) l_nil)))) (l_cons (r_str z37) l_nil)))))) l_nil)) (l_cons (vv 6) (l_cons (r_tup (l_cons (r_str z37) (l_cons (r_tup (l_cons r_non (l_cons r_non l_nil))) l_nil))) (l_cons (r_tup (l_cons (r_tup (l_cons (vv 3) (l_cons (vv 4) (l_cons r_int l_nil)))) l_nil)) l_nil))))) l_nil)))) (g_var e.nd (by rfl) (by first | exact Or.inl rfl | exact Or.inr rfl)))
def ls8 : Stmt := (⟨_, by conv => lhs; whnf⟩ : { s : Stmt // b50.getD 8 (.Pass ⟨0, 0, 0, 0⟩) = s }).1
def lv_8 : VSt := (.asg (.var 9) (.bin 0 (.var 9) (.vls (.cons (.tup (.cons (.vls (.cons (.tup (.cons (.cst (.str 116)) (.cons (.cst (.str 120)) (.cons (.vls .nil) (.cons (.vls (.cons (.tup (.cons (.cst (.str 1069911604876130910309)) (.cons (.tup (.cons (.cst (.str 1069911635662458585205)) (.cons (.cst (.str 109)) .nil))) (.cons (.var 4) .nil)))) (.cons (.tup (.cons (.cst (.str 1069911604876130910309)) (.cons (.var 5) (.cons (.var 4) .nil)))) .nil))) (.cons (.cst (.str 117)) .nil)))))) .nil)) (.cons (.var 6) (.cons (.tup (.cons (.cst (.str 117)) (.cons (.var 7) .nil))) (.cons (.tup .nil) .nil))))) (.cons (.tup (.cons (.vls (.cons (.tup (.cons (.cst (.str 116)) (.cons (.cst (.str 120)) (.cons (.vls (.cons (.tup (.cons (.cst (.str 1069911587283942768742)) (.cons (.cst (.str 108)) .nil))) .nil)) (.cons (.vls .nil) (.cons (.cst (.str 117)) .nil)))))) .nil)) (.cons (.var 3) (.cons (.tup (.cons (.cst (.str 117)) (.cons (.var 7) .nil))) (.cons (.tup .nil) .nil))))) (.cons (.tup (.cons (.vls (.cons (.tup (.cons (.cst (.str 116)) (.cons (.cst (.str 120)) (.cons (.vls (.cons (.tup (.cons (.cst (.str 1069911587283942768742)) (.cons (.cst (.str 108)) .nil))) .nil)) (.cons (.vls .nil) (.cons (.cst (.str 117)) .nil)))))) .nil)) (.cons (.var 4) (.cons (.tup (.cons (.cst (.str 116)) (.cons (.var 7) .nil))) (.cons (.tup .nil) .nil))))) (.cons (.tup (.cons (.vls (.cons (.tup (.cons (.cst (.str 116)) (.cons (.cst (.str 120)) (.cons (.vls (.cons (.tup (.cons (.cst (.str 1069911587283942768742)) (.cons (.cst (.str 109)) .nil))) .nil)) (.cons (.vls .nil) (.cons (.cst (.str 117)) .nil)))))) .nil)) (.cons (.cst .non) (.cons (.tup (.cons (.cst (.str 117)) (.cons (.var 7) .nil))) (.cons (.tup .nil) .nil))))) .nil)))))))
theorem lawS8 (nm : Nm fa fns ex K mg) {f : Addr} {cdv : Value} {A : Around} {outer : List Env} {s : Shared} {H : Hp} {E : XK} (e : Ev (Cc P w K) Tdf (XL P w K mg base f cdv A outer s H E) prg call k) (hgd : (XL P w K mg base f cdv A outer s H E).A.guards = some []) : SX (Cc P w K) (XL P w K mg base f cdv A outer s H E) prg call W ls8 lv_8 :=
  (q_asg (r_add (vv 9) (r_vls (l_cons (r_tup (l_cons (r_vls (l_cons (r_tup (l_cons (r_str z38) (l_cons (r_str z29) (l_cons (r_vls l_nil) (l_cons (r_vls (l_cons (r_tup (l_cons (r_str z8) (l_cons (r_tup (l_cons (r_str z3) (l_cons (r_str z35) l_nil))) (l_cons (vv 4) l_nil)))) (l_cons (r_tup (l_cons (r_str z8) (l_cons (vv 5) (l_cons (vv 4) l_nil)))) l_nil))) (l_cons (r_str z37) l_nil)))))) l_nil)) (l_cons (vv 6) (l_cons (r_tup (l_cons (r_str z37) (l_cons (vv 7) l_nil))) (l_cons (r_tup l_nil) l_nil))))) (l_cons (r_tup (l_cons (r_vls (l_cons (r_tup (l_cons (r_str z38) (l_cons (r_str z29) (l_cons (r_vls (l_cons (r_tup (l_cons (r_str z7) (l_cons (r_str z36) l_nil))) l_nil)) (l_cons (r_vls l_nil) (l_cons (r_str z37) l_nil)))))) l_nil)) (l_cons (vv 3) (l_cons (r_tup (l_cons (r_str z37) (l_cons (vv 7) l_nil))) (l_cons (r_tup l_nil) l_nil))))) (l_cons (r_tup (l_cons (r_vls (l_cons (r_tup (l_cons (r_str z38) (l_cons (r_str z29) (l_cons (r_vls (l_cons (r_tup (l_cons (r_str z7) (l_cons (r_str z36) l_nil))) l_nil)) (l_cons (r_vls l_nil) (l_cons (r_str z37) l_nil)))))) l_nil)) (l_cons (vv 4) (l_cons (r_tup (l_cons (r_str z38) (l_cons (vv 7) l_nil))) (l_cons (r_tup l_nil) l_nil))))) (l_cons (r_tup (l_cons (r_vls (l_cons (r_tup (l_cons (r_str z38) (l_cons (r_str z29) (l_cons (r_vls (l_cons (r_tup (l_cons (r_str z7) (l_cons (r_str z35) l_nil))) l_nil)) (l_cons (r_vls l_nil) (l_cons (r_str z37) l_nil)))))) l_nil)) (l_cons r_non (l_cons (r_tup (l_cons (r_str z37) (l_cons (vv 7) l_nil))) (l_cons (r_tup l_nil) l_nil))))) l_nil)))))) (g_var e.nd (by rfl) (by first | exact Or.inl rfl | exact Or.inr rfl)))
def ls9 : Stmt := (⟨_, by conv => lhs; whnf⟩ : { s : Stmt // b50.getD 9 (.Pass ⟨0, 0, 0, 0⟩) = s }).1
def lv_9 : VSt := (.asg (.var 9) (.bin 0 (.var 9) (.vls (.cons (.tup (.cons (.vls (.cons (.tup (.cons (.cst (.str 116)) (.cons (.cst (.str 120)) (.cons (.vls (.cons (.tup (.cons (.cst (.str 222298228)) (.cons (.var 4) .nil))) .nil)) (.cons (.vls .nil) (.cons (.cst (.str 117)) .nil)))))) .nil)) (.cons (.var 4) (.cons (.tup (.cons (.cst (.str 117)) (.cons (.var 7) .nil))) (.cons (.tup .nil) .nil))))) (.cons (.tup (.cons (.vls (.cons (.tup (.cons (.cst (.str 116)) (.cons (.cst (.str 120)) (.cons (.vls (.cons (.tup (.cons (.cst (.str 222298228)) (.cons (.var 4) .nil))) .nil)) (.cons (.vls .nil) (.cons (.cst (.str 117)) .nil)))))) .nil)) (.cons (.var 5) (.cons (.tup (.cons (.cst (.str 116)) (.cons (.var 7) .nil))) (.cons (.tup .nil) .nil))))) (.cons (.tup (.cons (.vls (.cons (.tup (.cons (.cst (.str 116)) (.cons (.cst (.str 120)) (.cons (.vls (.cons (.tup (.cons (.cst (.str 222298228)) (.cons (.cst .non) .nil))) .nil)) (.cons (.vls .nil) (.cons (.cst (.str 117)) .nil)))))) .nil)) (.cons (.cst .non) (.cons (.tup (.cons (.cst (.str 117)) (.cons (.var 7) .nil))) (.cons (.tup .nil) .nil))))) (.cons (.tup (.cons (.vls (.cons (.tup (.cons (.cst (.str 116)) (.cons (.cst (.str 120)) (.cons (.vls (.cons (.tup (.cons (.cst (.str 461795089186932)) (.cons (.cst (.str 108)) (.cons (.var 3) .nil)))) .nil)) (.cons (.vls .nil) (.cons (.cst (.str 117)) .nil)))))) .nil)) (.cons (.var 6) (.cons (.tup (.cons (.cst (.str 117)) (.cons (.var 7) .nil))) (.cons (.tup .nil) .nil))))) (.cons (.tup (.cons (.vls (.cons (.tup (.cons (.cst (.str 116)) (.cons (.cst (.str 120)) (.cons (.vls (.cons (.tup (.cons (.cst (.str 461795089186932)) (.cons (.cst (.str 109)) (.cons (.var 3) .nil)))) .nil)) (.cons (.vls .nil) (.cons (.cst (.str 117)) .nil)))))) .nil)) (.cons (.var 6) (.cons (.tup (.cons (.cst (.str 116)) (.cons (.var 7) .nil))) (.cons (.tup .nil) .nil))))) .nil))))))))
theorem lawS9 (nm : Nm fa fns ex K mg) {f : Addr} {cdv : Value} {A : Around} {outer : List Env} {s : Shared} {H : Hp} {E : XK} (e : Ev (Cc P w K) Tdf (XL P w K mg base f cdv A outer s H E) prg call k) (hgd : (XL P w K mg base f cdv A outer s H E).A.guards = some []) : SX (Cc P w K) (XL P w K mg base f cdv A outer s H E) prg call W ls9 lv_9 :=
  (q_asg (r_add (vv 9) (r_vls (l_cons (r_tup (l_cons (r_vls (l_cons (r_tup (l_cons (r_str z38) (l_cons (r_str z29) (l_cons (r_vls (l_cons (r_tup (l_cons (r_str z6) (l_cons (vv 4) l_nil))) l_nil)) (l_cons (r_vls l_nil) (l_cons (r_str z37) l_nil)))))) l_nil)) (l_cons (vv 4) (l_cons (r_tup (l_cons (r_str z37) (l_cons (vv 7) l_nil))) (l_cons (r_tup l_nil) l_nil))))) (l_cons (r_tup (l_cons (r_vls (l_cons (r_tup (l_cons (r_str z38) (l_cons (r_str z29) (l_cons (r_vls (l_cons (r_tup (l_cons (r_str z6) (l_cons (vv 4) l_nil))) l_nil)) (l_cons (r_vls l_nil) (l_cons (r_str z37) l_nil)))))) l_nil)) (l_cons (vv 5) (l_cons (r_tup (l_cons (r_str z38) (l_cons (vv 7) l_nil))) (l_cons (r_tup l_nil) l_nil))))) (l_cons (r_tup (l_cons (r_vls (l_cons (r_tup (l_cons (r_str z38) (l_cons (r_str z29) (l_cons (r_vls (l_cons (r_tup (l_cons (r_str z6) (l_cons r_non l_nil))) l_nil)) (l_cons (r_vls l_nil) (l_cons (r_str z37) l_nil)))))) l_nil)) (l_cons r_non (l_cons (r_tup (l_cons (r_str z37) (l_cons (vv 7) l_nil))) (l_cons (r_tup l_nil) l_nil))))) (l_cons (r_tup (l_cons (r_vls (l_cons (r_tup (l_cons (r_str z38) (l_cons (r_str z29) (l_cons (r_vls (l_cons (r_tup (l_cons (r_str z5) (l_cons (r_str z36) (l_cons (vv 3) l_nil)))) l_nil)) (l_cons (r_vls l_nil) (l_cons (r_str z37) l_nil)))))) l_nil)) (l_cons (vv 6) (l_cons (r_tup (l_cons (r_str z37) (l_cons (vv 7) l_nil))) (l_cons (r_tup l_nil) l_nil))))) (l_cons (r_tup (l_cons (r_vls (l_cons (r_tup (l_cons (r_str z38) (l_cons (r_str z29) (l_cons (r_vls (l_cons (r_tup (l_cons (r_str z5) (l_cons (r_str z35) (l_cons (vv 3) l_nil)))) l_nil)) (l_cons (r_vls l_nil) (l_cons (r_str z37) l_nil)))))) l_nil)) (l_cons (vv 6) (l_cons (r_tup (l_cons (r_str z38) (l_cons (vv 7) l_nil))) (l_cons (r_tup l_nil) l_nil))))) l_nil))))))) (g_var e.nd (by rfl) (by first | exact Or.inl rfl | exact Or.inr rfl)))
def ls10 : Stmt := (⟨_, by conv => lhs; whnf⟩ : { s : Stmt // b50.getD 10 (.Pass ⟨0, 0, 0, 0⟩) = s }).1
def lv_10 : VSt := (.asg (.var 9) (.bin 0 (.var 9) (.vls (.cons (.tup (.cons (.vls (.cons (.tup (.cons (.cst (.str 116)) (.cons (.cst (.str 120)) (.cons (.vls (.cons (.tup (.cons (.cst (.str 222298228)) (.cons (.var 4) .nil))) (.cons (.tup (.cons (.cst (.str 461795089186932)) (.cons (.cst (.str 109)) (.cons (.cst .non) .nil)))) .nil))) (.cons (.vls (.cons (.tup (.cons (.cst (.str 996124628581273829489)) (.cons (.cst (.str 108)) (.cons (.var 4) .nil)))) .nil)) (.cons (.cst (.str 117)) .nil)))))) (.cons (.tup (.cons (.cst (.str 116)) (.cons (.cst (.str 120)) (.cons (.vls .nil) (.cons (.vls (.cons (.tup (.cons (.cst (.str 996124628581273829489)) (.cons (.cst (.str 108)) (.cons (.var 5) .nil)))) .nil)) (.cons (.cst (.str 116)) .nil)))))) .nil))) (.cons (.var 4) (.cons (.tup (.cons (.cst (.str 117)) (.cons (.tup (.cons (.var 4) (.cons (.cst .non) .nil))) .nil))) (.cons (.tup .nil) .nil))))) (.cons (.tup (.cons (.vls (.cons (.tup (.cons (.cst (.str 116)) (.cons (.cst (.str 120)) (.cons (.vls (.cons (.tup (.cons (.cst (.str 222298228)) (.cons (.var 4) .nil))) (.cons (.tup (.cons (.cst (.str 461795089186932)) (.cons (.cst (.str 109)) (.cons (.var 4) .nil)))) .nil))) (.cons (.vls .nil) (.cons (.cst (.str 117)) .nil)))))) (.cons (.tup (.cons (.cst (.str 116)) (.cons (.cst (.str 120)) (.cons (.vls .nil) (.cons (.vls (.cons (.tup (.cons (.cst (.str 996124628581273829489)) (.cons (.cst (.str 108)) (.cons (.var 5) .nil)))) .nil)) (.cons (.cst (.str 116)) .nil)))))) .nil))) (.cons (.var 4) (.cons (.tup (.cons (.cst (.str 116)) (.cons (.tup (.cons (.var 5) (.cons (.cst .non) .nil))) .nil))) (.cons (.tup .nil) .nil))))) .nil)))))
theorem lawS10 (nm : Nm fa fns ex K mg) {f : Addr} {cdv : Value} {A : Around} {outer : List Env} {s : Shared} {H : Hp} {E : XK} (e : Ev (Cc P w K) Tdf (XL P w K mg base f cdv A outer s H E) prg call k) (hgd : (XL P w K mg base f cdv A outer s H E).A.guards = some []) : SX (Cc P w K) (XL P w K mg base f cdv A outer s H E) prg call W ls10 lv_10 :=
  (q_asg (r_add (vv 9) (r_vls (l_cons (r_tup (l_cons (r_vls (l_cons (r_tup (l_cons (r_str z38) (l_cons (r_str z29) (l_cons (r_vls (l_cons (r_tup (l_cons (r_str z6) (l_cons (vv 4) l_nil))) (l_cons (r_tup (l_cons (r_str z5) (l_cons (r_str z35) (l_cons r_non l_nil)))) l_nil))) (l_cons (r_vls (l_cons (r_tup (l_cons (r_str z9) (l_cons (r_str z36) (l_cons (vv 4) l_nil)))) l_nil)) (l_cons (r_str z37) l_nil)))))) (l_cons (r_tup (l_cons (r_str z38) (l_cons (r_str z29) (l_cons (r_vls l_nil) (l_cons (r_vls (l_cons (r_tup (l_cons (r_str z9) (l_cons (r_str z36) (l_cons (vv 5) l_nil)))) l_nil)) (l_cons (r_str z38) l_nil)))))) l_nil))) (l_cons (vv 4) (l_cons (r_tup (l_cons (r_str z37) (l_cons (r_tup (l_cons (vv 4) (l_cons r_non l_nil))) l_nil))) (l_cons (r_tup l_nil) l_nil))))) (l_cons (r_tup (l_cons (r_vls (l_cons (r_tup (l_cons (r_str z38) (l_cons (r_str z29) (l_cons (r_vls (l_cons (r_tup (l_cons (r_str z6) (l_cons (vv 4) l_nil))) (l_cons (r_tup (l_cons (r_str z5) (l_cons (r_str z35) (l_cons (vv 4) l_nil)))) l_nil))) (l_cons (r_vls l_nil) (l_cons (r_str z37) l_nil)))))) (l_cons (r_tup (l_cons (r_str z38) (l_cons (r_str z29) (l_cons (r_vls l_nil) (l_cons (r_vls (l_cons (r_tup (l_cons (r_str z9) (l_cons (r_str z36) (l_cons (vv 5) l_nil)))) l_nil)) (l_cons (r_str z38) l_nil)))))) l_nil))) (l_cons (vv 4) (l_cons (r_tup (l_cons (r_str z38) (l_cons (r_tup (l_cons (vv 5) (l_cons r_non l_nil))) l_nil))) (l_cons (r_tup l_nil) l_nil))))) l_nil)))) (g_var e.nd (by rfl) (by first | exact Or.inl rfl | exact Or.inr rfl)))
def ls11 : Stmt := (⟨_, by conv => lhs; whnf⟩ : { s : Stmt // b50.getD 11 (.Pass ⟨0, 0, 0, 0⟩) = s }).1
def lv_11 : VSt := (.asg (.var 9) (.bin 0 (.var 9) (.vls (.cons (.tup (.cons (.vls (.cons (.tup (.cons (.cst (.str 116)) (.cons (.cst (.str 120)) (.cons (.vls .nil) (.cons (.vls (.cons (.tup (.cons (.cst (.str 1069911604876130910309)) (.cons (.tup (.cons (.cst (.str 431008799260776)) .nil)) (.cons (.tup (.cons (.cst (.str 1069911635662458585205)) (.cons (.cst (.str 108)) .nil))) .nil)))) .nil)) (.cons (.cst (.str 117)) .nil)))))) .nil)) (.cons (.var 3) (.cons (.tup (.cons (.cst (.str 117)) (.cons (.var 7) .nil))) (.cons (.tup (.cons (.tup (.cons (.var 3) (.cons (.var 3) (.cons (.cst (.int (1))) .nil)))) .nil)) .nil))))) (.cons (.tup (.cons (.vls (.cons (.tup (.cons (.cst (.str 116)) (.cons (.cst (.str 120)) (.cons (.vls .nil) (.cons (.vls (.cons (.tup (.cons (.cst (.str 1069911604876130910309)) (.cons (.tup (.cons (.cst (.str 245366896)) (.cons (.cst (.str 113)) (.cons (.cst (.str 119)) .nil)))) (.cons (.cst .non) .nil)))) (.cons (.tup (.cons (.cst (.str 1069911604876130910309)) (.cons (.tup (.cons (.cst (.str 245366896)) (.cons (.cst (.str 113)) (.cons (.cst (.str 119)) .nil)))) (.cons (.var 4) .nil)))) .nil))) (.cons (.cst (.str 117)) .nil)))))) .nil)) (.cons (.var 6) (.cons (.tup (.cons (.cst (.str 117)) (.cons (.var 7) .nil))) (.cons (.tup (.cons (.tup (.cons (.tup (.cons (.cst (.str 245366896)) (.cons (.cst (.str 113)) (.cons (.cst (.str 119)) .nil)))) (.cons (.cst .non) (.cons (.cst (.int (1))) .nil)))) (.cons (.tup (.cons (.tup (.cons (.cst (.str 245366896)) (.cons (.cst (.str 113)) (.cons (.cst (.str 119)) .nil)))) (.cons (.var 4) (.cons (.cst (.int (1))) .nil)))) .nil))) .nil))))) .nil)))))
theorem lawS11 (nm : Nm fa fns ex K mg) {f : Addr} {cdv : Value} {A : Around} {outer : List Env} {s : Shared} {H : Hp} {E : XK} (e : Ev (Cc P w K) Tdf (XL P w K mg base f cdv A outer s H E) prg call k) (hgd : (XL P w K mg base f cdv A outer s H E).A.guards = some []) : SX (Cc P w K) (XL P w K mg base f cdv A outer s H E) prg call W ls11 lv_11 :=
  (q_asg (r_add (vv 9) (r_vls (l_cons (r_tup (l_cons (r_vls (l_cons (r_tup (l_cons (r_str z38) (l_cons (r_str z29) (l_cons (r_vls l_nil) (l_cons (r_vls (l_cons (r_tup (l_cons (r_str z8) (l_cons (r_tup (l_cons (r_str z4) l_nil)) (l_cons (r_tup (l_cons (r_str z3) (l_cons (r_str z36) l_nil))) l_nil)))) l_nil)) (l_cons (r_str z37) l_nil)))))) l_nil)) (l_cons (vv 3) (l_cons (r_tup (l_cons (r_str z37) (l_cons (vv 7) l_nil))) (l_cons (r_tup (l_cons (r_tup (l_cons (vv 3) (l_cons (vv 3) (l_cons r_int l_nil)))) l_nil)) l_nil))))) (l_cons (r_tup (l_cons (r_vls (l_cons (r_tup (l_cons (r_str z38) (l_cons (r_str z29) (l_cons (r_vls l_nil) (l_cons (r_vls (l_cons (r_tup (l_cons (r_str z8) (l_cons (r_tup (l_cons (r_str z2) (l_cons (r_str z30) (l_cons (r_str z39) l_nil)))) (l_cons r_non l_nil)))) (l_cons (r_tup (l_cons (r_str z8) (l_cons (r_tup (l_cons (r_str z2) (l_cons (r_str z30) (l_cons (r_str z39) l_nil)))) (l_cons (vv 4) l_nil)))) l_nil))) (l_cons (r_str z37) l_nil)))))) l_nil)) (l_cons (vv 6) (l_cons (r_tup (l_cons (r_str z37) (l_cons (vv 7) l_nil))) (l_cons (r_tup (l_cons (r_tup (l_cons (r_tup (l_cons (r_str z2) (l_cons (r_str z30) (l_cons (r_str z39) l_nil)))) (l_cons r_non (l_cons r_int l_nil)))) (l_cons (r_tup (l_cons (r_tup (l_cons (r_str z2) (l_cons (r_str z30) (l_cons (r_str z39) l_nil)))) (l_cons (vv 4) (l_cons r_int l_nil)))) l_nil))) l_nil))))) l_nil)))) (g_var e.nd (by rfl) (by first | exact Or.inl rfl | exact Or.inr rfl)))
def ls12 : Stmt := (⟨_, by conv => lhs; whnf⟩ : { s : Stmt // b50.getD 12 (.Pass ⟨0, 0, 0, 0⟩) = s }).1
def lfi12 : VE := (.var 9)
def lft12 : VT := (.tup (.cons (.var 10) (.cons (.var 11) (.cons (.var 12) (.cons (.var 13) .nil)))))
def lfb12 : VSt := (.cons (.asg (.var 14) (.call 49 (.cons (.var 10) (.cons (.var 2) (.cons (.var 11) .nil))))) (.cons (.iff (.or (.cmp 13 (.idx (.idx (.var 14) (.cst (.int (0)))) (.cst (.int (0)))) (.tup (.cons (.var 12) .nil))) (.or (.cmp 13 (.idx (.var 14) (.cst (.int (1)))) (.var 13)) (.cmp 13 (.idx (.idx (.var 14) (.cst (.int (0)))) (.cst (.int (1)))) (.tup (.cons (.bc 5 (.cons (.var 2) .nil)) (.cons (.tup .nil) .nil)))))) (.cons (.ret (.cst (.bl false))) .nil) .nil) .nil))
def lfT12 : Expr := (⟨_, by conv => lhs; whnf⟩ : { s : Expr // (match ls12 with | .For (target := t) .. => t | _ => .Constant .none 0 ⟨0, 0, 0, 0⟩) = s }).1
def lfI12 : Expr := (⟨_, by conv => lhs; whnf⟩ : { s : Expr // (match ls12 with | .For (iter := t) .. => t | _ => .Constant .none 0 ⟨0, 0, 0, 0⟩) = s }).1
def lfB12 : List Stmt := (⟨_, by conv => lhs; whnf⟩ : { s : List Stmt // (match ls12 with | .For (body := t) .. => t | _ => []) = s }).1
theorem lawI12 (nm : Nm fa fns ex K mg) {f : Addr} {cdv : Value} {A : Around} {outer : List Env} {s : Shared} {H : Hp} {E : XK} (e : Ev (Cc P w K) Tdf (XL P w K mg base f cdv A outer s H E) prg call k) (hgd : (XL P w K mg base f cdv A outer s H E).A.guards = some []) : SI (Cc P w K) (XL P w K mg base f cdv A outer s H E) false lfT12 lfI12 (ev prg call lfi12) :=
  (i_val (y0 := false) (vv 9))
theorem lawG12 (nm : Nm fa fns ex K mg) {f : Addr} {cdv : Value} {A : Around} {outer : List Env} {s : Shared} {H : Hp} {E : XK} (e : Ev (Cc P w K) Tdf (XL P w K mg base f cdv A outer s H E) prg call k) (hgd : (XL P w K mg base f cdv A outer s H E).A.guards = some []) : SG (Cc P w K) (XL P w K mg base f cdv A outer s H E) false lfT12 lft12 :=
  (g_tup e.calm (g_cons (g_var e.nd (by rfl) (by first | exact Or.inl rfl | exact Or.inr rfl)) (g_cons (g_var e.nd (by rfl) (by first | exact Or.inl rfl | exact Or.inr rfl)) (g_cons (g_var e.nd (by rfl) (by first | exact Or.inl rfl | exact Or.inr rfl)) (g_cons (g_var e.nd (by rfl) (by first | exact Or.inl rfl | exact Or.inr rfl)) g_nil)))) (asg_lenS (asg_lenS (asg_lenS (asg_lenS asg_len0)))))
theorem lawB12 (nm : Nm fa fns ex K mg) {f : Addr} {cdv : Value} {A : Around} {outer : List Env} {s : Shared} {H : Hp} {E : XK} (e : Ev (Cc P w K) Tdf (XL P w K mg base f cdv A outer s H E) prg call k) (hgd : (XL P w K mg base f cdv A outer s H E).A.guards = some []) : SXs (Cc P w K) (XL P w K mg base f cdv A outer s H E) prg call W lfB12 lfb12 :=
  (q_cons (q_asg (x_call e (n := 49) (by rfl) (by rfl) (nm.glo 88) (l_cons (vv 10) (l_cons (vv 2) (l_cons (vv 11) l_nil)))) (g_var e.nd (by rfl) (by first | exact Or.inl rfl | exact Or.inr rfl))) (q_cons (q_if (b_w (w_or (b_repN hgd (by have := e.units; omega) (by rfl) (nm.free 87) (r_idx e.xc (r_idx e.xc (vv 14) r_int) r_int) (r_tup (l_cons (vv 12) l_nil))) (w_or (b_repN hgd (by have := e.units; omega) (by rfl) (nm.free 87) (r_idx e.xc (vv 14) r_int) (vv 13)) (w_or1 (b_repN hgd (by have := e.units; omega) (by rfl) (nm.free 87) (r_idx e.xc (r_idx e.xc (vv 14) r_int) r_int) (r_tup (l_cons (r_bt (n := 5) (b_tuple) (by rfl) (nm.free 4) bo_tuple (l_cons (vv 2) l_nil)) (l_cons (r_tup l_nil) l_nil)))))))) (q_cons (q_ret r_bl) q_nil) q_nil) q_nil))
def lv_12 : VSt := .for_ lft12 lfi12 lfb12
theorem lawS12 (nm : Nm fa fns ex K mg) {f : Addr} {cdv : Value} {A : Around} {outer : List Env} {s : Shared} {H : Hp} {E : XK} (e : Ev (Cc P w K) Tdf (XL P w K mg base f cdv A outer s H E) prg call k) (hgd : (XL P w K mg base f cdv A outer s H E).A.guards = some []) : SX (Cc P w K) (XL P w K mg base f cdv A outer s H E) prg call W ls12 lv_12 :=
  q_for e.own e.calm (lawI12 nm e hgd) (lawG12 nm e hgd) (lawB12 nm e hgd)
def ls13 : Stmt := (⟨_, by conv => lhs; whnf⟩ : { s : Stmt // b50.getD 13 (.Pass ⟨0, 0, 0, 0⟩) = s }).1
def lv_13 : VSt := (.asg (.var 15) (.mk 3 (.cons (.vls (.cons (.cst (.str 110)) (.cons (.cst (.str 111)) .nil))) (.cons (.vls (.cons (.mk 1 (.cons (.cst (.str 113)) (.cons (.vls (.cons (.cst (.str 120)) .nil)) (.cons (.vls (.cons (.cst (.str 116)) .nil)) (.cons (.vls .nil) (.cons (.vls .nil) (.cons (.vls .nil) .nil))))))) .nil)) (.cons (.vls (.cons (.mk 2 (.cons (.cst (.str 431008790872175)) (.cons (.vls (.cons (.cst (.str 435406839480441)) .nil)) (.cons (.cst (.bl true)) (.cons (.vls (.cons (.var 4) (.cons (.tup (.cons (.cst (.str 245366896)) (.cons (.cst (.str 431008790872175)) (.cons (.cst (.str 435406839480441)) .nil)))) (.cons (.tup (.cons (.cst (.str 245366896)) (.cons (.cst (.str 113)) (.cons (.cst (.str 120)) .nil)))) .nil)))) .nil))))) (.cons (.mk 2 (.cons (.cst (.str 435406839480419)) (.cons (.vls .nil) (.cons (.cst (.bl false)) (.cons (.vls (.cons (.var 5) (.cons (.tup (.cons (.cst (.str 245366896)) (.cons (.cst (.str 431008790872175)) (.cons (.cst (.str 435406839480441)) .nil)))) .nil))) .nil))))) .nil))) .nil)))))
theorem lawS13 (nm : Nm fa fns ex K mg) {f : Addr} {cdv : Value} {A : Around} {outer : List Env} {s : Shared} {H : Hp} {E : XK} (e : Ev (Cc P w K) Tdf (XL P w K mg base f cdv A outer s H E) prg call k) (hgd : (XL P w K mg base f cdv A outer s H E).A.guards = some []) : SX (Cc P w K) (XL P w K mg base f cdv A outer s H E) prg call W ls13 lv_13 :=
  (q_asg (x_mk e (cl := 3) (by rfl) (by rfl) (nm.glo 32) (l_cons (r_vls (l_cons (r_str z34) (l_cons (r_str z33) l_nil))) (l_cons (r_vls (l_cons (x_mk e (cl := 1) (by rfl) (by rfl) (nm.glo 69) (l_cons (r_str z30) (l_cons (r_vls (l_cons (r_str z29) l_nil)) (l_cons (r_vls (l_cons (r_str z38) l_nil)) (l_cons (r_vls l_nil) (l_cons (r_vls l_nil) (l_cons (r_vls l_nil) l_nil))))))) l_nil)) (l_cons (r_vls (l_cons (x_mk e (cl := 2) (by rfl) (by rfl) (nm.glo 68) (l_cons (r_str z28) (l_cons (r_vls (l_cons (r_str z31) l_nil)) (l_cons r_bl (l_cons (r_vls (l_cons (vv 4) (l_cons (r_tup (l_cons (r_str z2) (l_cons (r_str z28) (l_cons (r_str z31) l_nil)))) (l_cons (r_tup (l_cons (r_str z2) (l_cons (r_str z30) (l_cons (r_str z29) l_nil)))) l_nil)))) l_nil))))) (l_cons (x_mk e (cl := 2) (by rfl) (by rfl) (nm.glo 68) (l_cons (r_str z32) (l_cons (r_vls l_nil) (l_cons r_bl (l_cons (r_vls (l_cons (vv 5) (l_cons (r_tup (l_cons (r_str z2) (l_cons (r_str z28) (l_cons (r_str z31) l_nil)))) l_nil))) l_nil))))) l_nil))) l_nil)))) (g_var e.nd (by rfl) (by first | exact Or.inl rfl | exact Or.inr rfl)))
def ls14 : Stmt := (⟨_, by conv => lhs; whnf⟩ : { s : Stmt // b50.getD 14 (.Pass ⟨0, 0, 0, 0⟩) = s }).1
def lv_14 : VSt := (.asg (.tup (.cons (.var 16) (.cons (.var 17) .nil))) (.tup (.cons (.tup (.cons (.cst (.str 245366896)) (.cons (.cst (.str 431008790872175)) (.cons (.cst (.str 435406839480441)) .nil)))) (.cons (.vls .nil) .nil))))
theorem lawS14 (nm : Nm fa fns ex K mg) {f : Addr} {cdv : Value} {A : Around} {outer : List Env} {s : Shared} {H : Hp} {E : XK} (e : Ev (Cc P w K) Tdf (XL P w K mg base f cdv A outer s H E) prg call k) (hgd : (XL P w K mg base f cdv A outer s H E).A.guards = some []) : SX (Cc P w K) (XL P w K mg base f cdv A outer s H E) prg call W ls14 lv_14 :=
  (q_par e (i := 16) (j := 17) (by rfl) (by rfl) (by decide) rfl rfl (l_cons (r_tup (l_cons (r_str z2) (l_cons (r_str z28) (l_cons (r_str z31) l_nil)))) (l_cons (r_vls l_nil) l_nil)))
def ls15 : Stmt := (⟨_, by conv => lhs; whnf⟩ : { s : Stmt // b50.getD 15 (.Pass ⟨0, 0, 0, 0⟩) = s }).1
def lfi15 : VE := (.tup (.cons (.tup (.cons (.cst (.str 435406839480419)) (.cons (.var 5) .nil))) (.cons (.tup (.cons (.cst (.str 435406839480419)) (.cons (.cst .non) .nil))) (.cons (.tup (.cons (.cst (.str 435406839480419)) (.cons (.var 5) .nil))) (.cons (.tup (.cons (.cst (.str 431008790872175)) (.cons (.var 4) .nil))) .nil)))))
def lft15 : VT := (.tup (.cons (.var 18) (.cons (.var 19) .nil)))
def lfb15 : VSt := (.cons (.asg (.var 20) (.vls (.cons (.tup (.cons (.cst (.str 1069911604876130910309)) (.cons (.var 18) (.cons (.var 16) (.cons (.var 19) .nil))))) (.cons (.tup (.cons (.cst (.str 3975354506740296182261774190379110)) (.cons (.var 16) (.cons (.var 19) .nil)))) .nil)))) (.cons (.asg (.var 17) (.bin 0 (.bc 6 (.cons (.var 17) .nil)) (.var 20))) .nil))
def lfT15 : Expr := (⟨_, by conv => lhs; whnf⟩ : { s : Expr // (match ls15 with | .For (target := t) .. => t | _ => .Constant .none 0 ⟨0, 0, 0, 0⟩) = s }).1
def lfI15 : Expr := (⟨_, by conv => lhs; whnf⟩ : { s : Expr // (match ls15 with | .For (iter := t) .. => t | _ => .Constant .none 0 ⟨0, 0, 0, 0⟩) = s }).1
def lfB15 : List Stmt := (⟨_, by conv => lhs; whnf⟩ : { s : List Stmt // (match ls15 with | .For (body := t) .. => t | _ => []) = s }).1
theorem lawI15 (nm : Nm fa fns ex K mg) {f : Addr} {cdv : Value} {A : Around} {outer : List Env} {s : Shared} {H : Hp} {E : XK} (e : Ev (Cc P w K) Tdf (XL P w K mg base f cdv A outer s H E) prg call k) (hgd : (XL P w K mg base f cdv A outer s H E).A.guards = some []) : SI (Cc P w K) (XL P w K mg base f cdv A outer s H E) false lfT15 lfI15 (ev prg call lfi15) :=
  (i_val (y0 := false) (r_tup (l_cons (r_tup (l_cons (r_str z32) (l_cons (vv 5) l_nil))) (l_cons (r_tup (l_cons (r_str z32) (l_cons r_non l_nil))) (l_cons (r_tup (l_cons (r_str z32) (l_cons (vv 5) l_nil))) (l_cons (r_tup (l_cons (r_str z28) (l_cons (vv 4) l_nil))) l_nil))))))
theorem lawG15 (nm : Nm fa fns ex K mg) {f : Addr} {cdv : Value} {A : Around} {outer : List Env} {s : Shared} {H : Hp} {E : XK} (e : Ev (Cc P w K) Tdf (XL P w K mg base f cdv A outer s H E) prg call k) (hgd : (XL P w K mg base f cdv A outer s H E).A.guards = some []) : SG (Cc P w K) (XL P w K mg base f cdv A outer s H E) false lfT15 lft15 :=
  (g_tup e.calm (g_cons (g_var e.nd (by rfl) (by first | exact Or.inl rfl | exact Or.inr rfl)) (g_cons (g_var e.nd (by rfl) (by first | exact Or.inl rfl | exact Or.inr rfl)) g_nil)) (asg_lenS (asg_lenS asg_len0)))
theorem lawB15 (nm : Nm fa fns ex K mg) {f : Addr} {cdv : Value} {A : Around} {outer : List Env} {s : Shared} {H : Hp} {E : XK} (e : Ev (Cc P w K) Tdf (XL P w K mg base f cdv A outer s H E) prg call k) (hgd : (XL P w K mg base f cdv A outer s H E).A.guards = some []) : SXs (Cc P w K) (XL P w K mg base f cdv A outer s H E) prg call W lfB15 lfb15 :=
  (q_cons (q_asg (r_vls (l_cons (r_tup (l_cons (r_str z8) (l_cons (vv 18) (l_cons (vv 16) (l_cons (vv 19) l_nil))))) (l_cons (r_tup (l_cons (r_str z26) (l_cons (vv 16) (l_cons (vv 19) l_nil)))) l_nil))) (g_var e.nd (by rfl) (by first | exact Or.inl rfl | exact Or.inr rfl))) (q_cons (q_asg (r_add (r_bt (n := 6) (b_list) (by rfl) (nm.free 3) bo_list (l_cons (vv 17) l_nil)) (vv 20)) (g_var e.nd (by rfl) (by first | exact Or.inl rfl | exact Or.inr rfl))) q_nil))
def lv_15 : VSt := .for_ lft15 lfi15 lfb15
theorem lawS15 (nm : Nm fa fns ex K mg) {f : Addr} {cdv : Value} {A : Around} {outer : List Env} {s : Shared} {H : Hp} {E : XK} (e : Ev (Cc P w K) Tdf (XL P w K mg base f cdv A outer s H E) prg call k) (hgd : (XL P w K mg base f cdv A outer s H E).A.guards = some []) : SX (Cc P w K) (XL P w K mg base f cdv A outer s H E) prg call W ls15 lv_15 :=
  q_for e.own e.calm (lawI15 nm e hgd) (lawG15 nm e hgd) (lawB15 nm e hgd)
def ls16 : Stmt := (⟨_, by conv => lhs; whnf⟩ : { s : Stmt // b50.getD 16 (.Pass ⟨0, 0, 0, 0⟩) = s }).1
def lv_16 : VSt := (.ret (.cmp 0 (.idx (.call 45 (.cons (.var 15) (.cons (.var 17) (.cons (.cst .non) .nil)))) (.cst (.int (-1)))) (.tup (.cons (.tup (.cons (.tup (.cons (.tup (.cons (.cst (.str 116)) (.cons (.tup .nil) .nil))) .nil)) (.cons (.tup (.cons (.tup (.cons (.var 4) (.cons (.var 5) (.cons (.tup (.cons (.cst (.str 245366896)) (.cons (.cst (.str 431008790872175)) (.cons (.cst (.str 435406839480441)) .nil)))) (.cons (.tup (.cons (.cst (.str 245366896)) (.cons (.cst (.str 113)) (.cons (.cst (.str 120)) .nil)))) .nil))))) (.cons (.tup (.cons (.var 5) (.cons (.tup (.cons (.cst (.str 245366896)) (.cons (.cst (.str 431008790872175)) (.cons (.cst (.str 435406839480441)) .nil)))) .nil))) .nil))) .nil))) (.cons (.tup .nil) .nil)))))
theorem lawS16 (nm : Nm fa fns ex K mg) {f : Addr} {cdv : Value} {A : Around} {outer : List Env} {s : Shared} {H : Hp} {E : XK} (e : Ev (Cc P w K) Tdf (XL P w K mg base f cdv A outer s H E) prg call k) (hgd : (XL P w K mg base f cdv A outer s H E).A.guards = some []) : SX (Cc P w K) (XL P w K mg base f cdv A outer s H E) prg call W ls16 lv_16 :=
  (q_ret (r_eq e.xc (r_idx e.xc (x_callD (ds := [.non]) (dvs := [.non]) e (n := 45) (by rfl) (List.mem_cons_self ..) (fun _ _ => ⟨.non, _, rfl, rfl, rfl⟩) (by rfl) (by rfl) (nm.glo 67) (l_cons (vv 15) (l_cons (vv 17) l_nil))) r_negc) (r_tup (l_cons (r_tup (l_cons (r_tup (l_cons (r_tup (l_cons (r_str z38) (l_cons (r_tup l_nil) l_nil))) l_nil)) (l_cons (r_tup (l_cons (r_tup (l_cons (vv 4) (l_cons (vv 5) (l_cons (r_tup (l_cons (r_str z2) (l_cons (r_str z28) (l_cons (r_str z31) l_nil)))) (l_cons (r_tup (l_cons (r_str z2) (l_cons (r_str z30) (l_cons (r_str z29) l_nil)))) l_nil))))) (l_cons (r_tup (l_cons (vv 5) (l_cons (r_tup (l_cons (r_str z2) (l_cons (r_str z28) (l_cons (r_str z31) l_nil)))) l_nil))) l_nil))) l_nil))) (l_cons (r_tup l_nil) l_nil)))))
end
end
end VI.K
namespace VI.K
open PySem PySem.Spec L2 VI
noncomputable section
def WW : Nat := 100000
def dep : Nat := 16
abbrev cF : Nat → U → VH → VR := callF prg WW dep
def stOf (r : VRS) : VS := VRS.rec (fun s _ => s) (fun _ _ => .nil) (fun _ _ => .nil) (fun _ _ => .nil) (fun _ => .nil) r
def hP (z : Int) : VH := .mk 1 (.cons 0 (.lst (.cons (.int z) .nil)) .nil)
def slP : VS := .un (.cons (.ref 0) (VS.of .nil 19))
def slA : VS := stOf (VI.ex prg cF WW (.cons lv_1 (.cons lv_2 .nil)) slP (hP 0))
theorem eA (z : Int) : VI.ex prg cF WW (.cons lv_1 (.cons lv_2 .nil)) slP (hP z) = .nx slA (hP z) := by kernel_rfl
def luOf (r : VR) : U := VR.rec (fun u _ => u) (fun _ => .nil) r
def spOf (u : U) : U := u.cases .nil (fun _ => .nil) (fun _ => .nil) (fun _ => .nil) (fun _ _ => .nil) (fun _ s => s) (fun _ => .nil) (fun _ => .nil) .nil
def dpOf (u : U) : Nat := u.cases 0 (fun _ => 0) (fun _ => 0) (fun _ => 0) (fun _ _ => 0) (fun d _ => d) (fun _ => 0) (fun _ => 0) 0
def lu : U := luOf (VI.ev prg cF lpv3 .nil slA (hP 0))
theorem eL (z : Int) : VI.ev prg cF lpv3 .nil slA (hP z) = .one (.vl (dpOf lu) (spOf lu)) (hP z) := by kernel_rfl
def item (s : U) (i : Nat) : U := s.nth i .non (fun u => u)
theorem five : (spOf lu).len = 5 := by decide +kernel
/-- behind the pick, without the pen -/
def slB (u : U) : VS := (slA.set 6 u).unset 1
def b411 : VSt := .cons lv_4 (.cons lv_5 (.cons lv_6 (.cons lv_7 (.cons lv_8 (.cons lv_9 (.cons lv_10 (.cons lv_11 .nil)))))))
def sl4 (i : Nat) : VS := stOf (VI.ex prg cF WW b411 (slB (item (spOf lu) i)) vh0)
def slS : VS := (((((slA.unset 1).unset 3)).unset 6)).unset 0
def casU (i : Nat) : U := (sl4 i).get 9 .non (fun u => u)
def csp (i : Nat) : U := spOf (casU i)
def turnB (a : U) : Bool := Option.rec false (fun s' => goesTo slS (VI.ex prg cF WW lfb12 s' vh0)) (asgT none lft12 a slS vh0 some)
theorem n4 : noRefS slS = true := by decide +kernel
def rest : VSt := .cons lv_13 (.cons lv_14 (.cons lv_15 (.cons lv_16 .nil)))
theorem eR : givesT (VI.ex prg cF WW rest slS vh0) = true := by decide +kernel
theorem e4_0 : goesTo (sl4 0) (VI.ex prg cF WW b411 (slB (item (spOf lu) 0)) vh0) = true := by decide +kernel
theorem c4_0 : (noRefS (sl4 0) && (noRefS (slB (item (spOf lu) 0)) && (subS slS (sl4 0) && (noRef (csp 0) && Nat.beq (csp 0).len 21)))) = true := by decide +kernel
theorem w4_0 : VI.ev prg cF lfi12 .nil (sl4 0) vh0 = .one (.vl (dpOf (casU 0)) (csp 0)) vh0 := by kernel_rfl
theorem t0_0 : turnB (item (csp 0) 0) = true := by decide +kernel
theorem t0_1 : turnB (item (csp 0) 1) = true := by decide +kernel
theorem t0_2 : turnB (item (csp 0) 2) = true := by decide +kernel
theorem t0_3 : turnB (item (csp 0) 3) = true := by decide +kernel
theorem t0_4 : turnB (item (csp 0) 4) = true := by decide +kernel
theorem t0_5 : turnB (item (csp 0) 5) = true := by decide +kernel
theorem t0_6 : turnB (item (csp 0) 6) = true := by decide +kernel
theorem t0_7 : turnB (item (csp 0) 7) = true := by decide +kernel
theorem t0_8 : turnB (item (csp 0) 8) = true := by decide +kernel
theorem t0_9 : turnB (item (csp 0) 9) = true := by decide +kernel
theorem t0_10 : turnB (item (csp 0) 10) = true := by decide +kernel
theorem t0_11 : turnB (item (csp 0) 11) = true := by decide +kernel
theorem t0_12 : turnB (item (csp 0) 12) = true := by decide +kernel
theorem t0_13 : turnB (item (csp 0) 13) = true := by decide +kernel
theorem t0_14 : turnB (item (csp 0) 14) = true := by decide +kernel
theorem t0_15 : turnB (item (csp 0) 15) = true := by decide +kernel
theorem t0_16 : turnB (item (csp 0) 16) = true := by decide +kernel
theorem t0_17 : turnB (item (csp 0) 17) = true := by decide +kernel
theorem t0_18 : turnB (item (csp 0) 18) = true := by decide +kernel
theorem t0_19 : turnB (item (csp 0) 19) = true := by decide +kernel
theorem t0_20 : turnB (item (csp 0) 20) = true := by decide +kernel
theorem tt0 : ∀ k, k < 21 → turnB (item (csp 0) k) = true
  | 0, _ => t0_0
  | 1, _ => t0_1
  | 2, _ => t0_2
  | 3, _ => t0_3
  | 4, _ => t0_4
  | 5, _ => t0_5
  | 6, _ => t0_6
  | 7, _ => t0_7
  | 8, _ => t0_8
  | 9, _ => t0_9
  | 10, _ => t0_10
  | 11, _ => t0_11
  | 12, _ => t0_12
  | 13, _ => t0_13
  | 14, _ => t0_14
  | 15, _ => t0_15
  | 16, _ => t0_16
  | 17, _ => t0_17
  | 18, _ => t0_18
  | 19, _ => t0_19
  | 20, _ => t0_20
  | k + 21, h => absurd h (by omega)
theorem e4_1 : goesTo (sl4 1) (VI.ex prg cF WW b411 (slB (item (spOf lu) 1)) vh0) = true := by decide +kernel
theorem c4_1 : (noRefS (sl4 1) && (noRefS (slB (item (spOf lu) 1)) && (subS slS (sl4 1) && (noRef (csp 1) && Nat.beq (csp 1).len 21)))) = true := by decide +kernel
theorem w4_1 : VI.ev prg cF lfi12 .nil (sl4 1) vh0 = .one (.vl (dpOf (casU 1)) (csp 1)) vh0 := by kernel_rfl
theorem t1_0 : turnB (item (csp 1) 0) = true := by decide +kernel
theorem t1_1 : turnB (item (csp 1) 1) = true := by decide +kernel
theorem t1_2 : turnB (item (csp 1) 2) = true := by decide +kernel
theorem t1_3 : turnB (item (csp 1) 3) = true := by decide +kernel
theorem t1_4 : turnB (item (csp 1) 4) = true := by decide +kernel
theorem t1_5 : turnB (item (csp 1) 5) = true := by decide +kernel
theorem t1_6 : turnB (item (csp 1) 6) = true := by decide +kernel
theorem t1_7 : turnB (item (csp 1) 7) = true := by decide +kernel
theorem t1_8 : turnB (item (csp 1) 8) = true := by decide +kernel
theorem t1_9 : turnB (item (csp 1) 9) = true := by decide +kernel
theorem t1_10 : turnB (item (csp 1) 10) = true := by decide +kernel
theorem t1_11 : turnB (item (csp 1) 11) = true := by decide +kernel
theorem t1_12 : turnB (item (csp 1) 12) = true := by decide +kernel
theorem t1_13 : turnB (item (csp 1) 13) = true := by decide +kernel
theorem t1_14 : turnB (item (csp 1) 14) = true := by decide +kernel
theorem t1_15 : turnB (item (csp 1) 15) = true := by decide +kernel
theorem t1_16 : turnB (item (csp 1) 16) = true := by decide +kernel
theorem t1_17 : turnB (item (csp 1) 17) = true := by decide +kernel
theorem t1_18 : turnB (item (csp 1) 18) = true := by decide +kernel
theorem t1_19 : turnB (item (csp 1) 19) = true := by decide +kernel
theorem t1_20 : turnB (item (csp 1) 20) = true := by decide +kernel
theorem tt1 : ∀ k, k < 21 → turnB (item (csp 1) k) = true
  | 0, _ => t1_0
  | 1, _ => t1_1
  | 2, _ => t1_2
  | 3, _ => t1_3
  | 4, _ => t1_4
  | 5, _ => t1_5
  | 6, _ => t1_6
  | 7, _ => t1_7
  | 8, _ => t1_8
  | 9, _ => t1_9
  | 10, _ => t1_10
  | 11, _ => t1_11
  | 12, _ => t1_12
  | 13, _ => t1_13
  | 14, _ => t1_14
  | 15, _ => t1_15
  | 16, _ => t1_16
  | 17, _ => t1_17
  | 18, _ => t1_18
  | 19, _ => t1_19
  | 20, _ => t1_20
  | k + 21, h => absurd h (by omega)
theorem e4_2 : goesTo (sl4 2) (VI.ex prg cF WW b411 (slB (item (spOf lu) 2)) vh0) = true := by decide +kernel
theorem c4_2 : (noRefS (sl4 2) && (noRefS (slB (item (spOf lu) 2)) && (subS slS (sl4 2) && (noRef (csp 2) && Nat.beq (csp 2).len 21)))) = true := by decide +kernel
theorem w4_2 : VI.ev prg cF lfi12 .nil (sl4 2) vh0 = .one (.vl (dpOf (casU 2)) (csp 2)) vh0 := by kernel_rfl
theorem t2_0 : turnB (item (csp 2) 0) = true := by decide +kernel
theorem t2_1 : turnB (item (csp 2) 1) = true := by decide +kernel
theorem t2_2 : turnB (item (csp 2) 2) = true := by decide +kernel
theorem t2_3 : turnB (item (csp 2) 3) = true := by decide +kernel
theorem t2_4 : turnB (item (csp 2) 4) = true := by decide +kernel
theorem t2_5 : turnB (item (csp 2) 5) = true := by decide +kernel
theorem t2_6 : turnB (item (csp 2) 6) = true := by decide +kernel
theorem t2_7 : turnB (item (csp 2) 7) = true := by decide +kernel
theorem t2_8 : turnB (item (csp 2) 8) = true := by decide +kernel
theorem t2_9 : turnB (item (csp 2) 9) = true := by decide +kernel
theorem t2_10 : turnB (item (csp 2) 10) = true := by decide +kernel
theorem t2_11 : turnB (item (csp 2) 11) = true := by decide +kernel
theorem t2_12 : turnB (item (csp 2) 12) = true := by decide +kernel
theorem t2_13 : turnB (item (csp 2) 13) = true := by decide +kernel
theorem t2_14 : turnB (item (csp 2) 14) = true := by decide +kernel
theorem t2_15 : turnB (item (csp 2) 15) = true := by decide +kernel
theorem t2_16 : turnB (item (csp 2) 16) = true := by decide +kernel
theorem t2_17 : turnB (item (csp 2) 17) = true := by decide +kernel
theorem t2_18 : turnB (item (csp 2) 18) = true := by decide +kernel
theorem t2_19 : turnB (item (csp 2) 19) = true := by decide +kernel
theorem t2_20 : turnB (item (csp 2) 20) = true := by decide +kernel
theorem tt2 : ∀ k, k < 21 → turnB (item (csp 2) k) = true
  | 0, _ => t2_0
  | 1, _ => t2_1
  | 2, _ => t2_2
  | 3, _ => t2_3
  | 4, _ => t2_4
  | 5, _ => t2_5
  | 6, _ => t2_6
  | 7, _ => t2_7
  | 8, _ => t2_8
  | 9, _ => t2_9
  | 10, _ => t2_10
  | 11, _ => t2_11
  | 12, _ => t2_12
  | 13, _ => t2_13
  | 14, _ => t2_14
  | 15, _ => t2_15
  | 16, _ => t2_16
  | 17, _ => t2_17
  | 18, _ => t2_18
  | 19, _ => t2_19
  | 20, _ => t2_20
  | k + 21, h => absurd h (by omega)
theorem e4_3 : goesTo (sl4 3) (VI.ex prg cF WW b411 (slB (item (spOf lu) 3)) vh0) = true := by decide +kernel
theorem c4_3 : (noRefS (sl4 3) && (noRefS (slB (item (spOf lu) 3)) && (subS slS (sl4 3) && (noRef (csp 3) && Nat.beq (csp 3).len 21)))) = true := by decide +kernel
theorem w4_3 : VI.ev prg cF lfi12 .nil (sl4 3) vh0 = .one (.vl (dpOf (casU 3)) (csp 3)) vh0 := by kernel_rfl
theorem t3_0 : turnB (item (csp 3) 0) = true := by decide +kernel
theorem t3_1 : turnB (item (csp 3) 1) = true := by decide +kernel
theorem t3_2 : turnB (item (csp 3) 2) = true := by decide +kernel
theorem t3_3 : turnB (item (csp 3) 3) = true := by decide +kernel
theorem t3_4 : turnB (item (csp 3) 4) = true := by decide +kernel
theorem t3_5 : turnB (item (csp 3) 5) = true := by decide +kernel
theorem t3_6 : turnB (item (csp 3) 6) = true := by decide +kernel
theorem t3_7 : turnB (item (csp 3) 7) = true := by decide +kernel
theorem t3_8 : turnB (item (csp 3) 8) = true := by decide +kernel
theorem t3_9 : turnB (item (csp 3) 9) = true := by decide +kernel
theorem t3_10 : turnB (item (csp 3) 10) = true := by decide +kernel
theorem t3_11 : turnB (item (csp 3) 11) = true := by decide +kernel
theorem t3_12 : turnB (item (csp 3) 12) = true := by decide +kernel
theorem t3_13 : turnB (item (csp 3) 13) = true := by decide +kernel
theorem t3_14 : turnB (item (csp 3) 14) = true := by decide +kernel
theorem t3_15 : turnB (item (csp 3) 15) = true := by decide +kernel
theorem t3_16 : turnB (item (csp 3) 16) = true := by decide +kernel
theorem t3_17 : turnB (item (csp 3) 17) = true := by decide +kernel
theorem t3_18 : turnB (item (csp 3) 18) = true := by decide +kernel
theorem t3_19 : turnB (item (csp 3) 19) = true := by decide +kernel
theorem t3_20 : turnB (item (csp 3) 20) = true := by decide +kernel
theorem tt3 : ∀ k, k < 21 → turnB (item (csp 3) k) = true
  | 0, _ => t3_0
  | 1, _ => t3_1
  | 2, _ => t3_2
  | 3, _ => t3_3
  | 4, _ => t3_4
  | 5, _ => t3_5
  | 6, _ => t3_6
  | 7, _ => t3_7
  | 8, _ => t3_8
  | 9, _ => t3_9
  | 10, _ => t3_10
  | 11, _ => t3_11
  | 12, _ => t3_12
  | 13, _ => t3_13
  | 14, _ => t3_14
  | 15, _ => t3_15
  | 16, _ => t3_16
  | 17, _ => t3_17
  | 18, _ => t3_18
  | 19, _ => t3_19
  | 20, _ => t3_20
  | k + 21, h => absurd h (by omega)
theorem e4_4 : goesTo (sl4 4) (VI.ex prg cF WW b411 (slB (item (spOf lu) 4)) vh0) = true := by decide +kernel
theorem c4_4 : (noRefS (sl4 4) && (noRefS (slB (item (spOf lu) 4)) && (subS slS (sl4 4) && (noRef (csp 4) && Nat.beq (csp 4).len 21)))) = true := by decide +kernel
theorem w4_4 : VI.ev prg cF lfi12 .nil (sl4 4) vh0 = .one (.vl (dpOf (casU 4)) (csp 4)) vh0 := by kernel_rfl
theorem t4_0 : turnB (item (csp 4) 0) = true := by decide +kernel
theorem t4_1 : turnB (item (csp 4) 1) = true := by decide +kernel
theorem t4_2 : turnB (item (csp 4) 2) = true := by decide +kernel
theorem t4_3 : turnB (item (csp 4) 3) = true := by decide +kernel
theorem t4_4 : turnB (item (csp 4) 4) = true := by decide +kernel
theorem t4_5 : turnB (item (csp 4) 5) = true := by decide +kernel
theorem t4_6 : turnB (item (csp 4) 6) = true := by decide +kernel
theorem t4_7 : turnB (item (csp 4) 7) = true := by decide +kernel
theorem t4_8 : turnB (item (csp 4) 8) = true := by decide +kernel
theorem t4_9 : turnB (item (csp 4) 9) = true := by decide +kernel
theorem t4_10 : turnB (item (csp 4) 10) = true := by decide +kernel
theorem t4_11 : turnB (item (csp 4) 11) = true := by decide +kernel
theorem t4_12 : turnB (item (csp 4) 12) = true := by decide +kernel
theorem t4_13 : turnB (item (csp 4) 13) = true := by decide +kernel
theorem t4_14 : turnB (item (csp 4) 14) = true := by decide +kernel
theorem t4_15 : turnB (item (csp 4) 15) = true := by decide +kernel
theorem t4_16 : turnB (item (csp 4) 16) = true := by decide +kernel
theorem t4_17 : turnB (item (csp 4) 17) = true := by decide +kernel
theorem t4_18 : turnB (item (csp 4) 18) = true := by decide +kernel
theorem t4_19 : turnB (item (csp 4) 19) = true := by decide +kernel
theorem t4_20 : turnB (item (csp 4) 20) = true := by decide +kernel
theorem tt4 : ∀ k, k < 21 → turnB (item (csp 4) k) = true
  | 0, _ => t4_0
  | 1, _ => t4_1
  | 2, _ => t4_2
  | 3, _ => t4_3
  | 4, _ => t4_4
  | 5, _ => t4_5
  | 6, _ => t4_6
  | 7, _ => t4_7
  | 8, _ => t4_8
  | 9, _ => t4_9
  | 10, _ => t4_10
  | 11, _ => t4_11
  | 12, _ => t4_12
  | 13, _ => t4_13
  | 14, _ => t4_14
  | 15, _ => t4_15
  | 16, _ => t4_16
  | 17, _ => t4_17
  | 18, _ => t4_18
  | 19, _ => t4_19
  | 20, _ => t4_20
  | k + 21, h => absurd h (by omega)
theorem e4A : ∀ i, i < 5 → goesTo (sl4 i) (VI.ex prg cF WW b411 (slB (item (spOf lu) i)) vh0) = true
  | 0, _ => e4_0
  | 1, _ => e4_1
  | 2, _ => e4_2
  | 3, _ => e4_3
  | 4, _ => e4_4
  | k + 5, h => absurd h (by omega)
theorem c4A : ∀ i, i < 5 → (noRefS (sl4 i) && (noRefS (slB (item (spOf lu) i)) && (subS slS (sl4 i) && (noRef (csp i) && Nat.beq (csp i).len 21)))) = true
  | 0, _ => c4_0
  | 1, _ => c4_1
  | 2, _ => c4_2
  | 3, _ => c4_3
  | 4, _ => c4_4
  | k + 5, h => absurd h (by omega)
theorem w4A : ∀ i, i < 5 → VI.ev prg cF lfi12 .nil (sl4 i) vh0 = .one (.vl (dpOf (casU i)) (csp i)) vh0
  | 0, _ => w4_0
  | 1, _ => w4_1
  | 2, _ => w4_2
  | 3, _ => w4_3
  | 4, _ => w4_4
  | k + 5, h => absurd h (by omega)
theorem ttA : ∀ i, i < 5 → ∀ k, k < 21 → turnB (item (csp i) k) = true
  | 0, _ => tt0
  | 1, _ => tt1
  | 2, _ => tt2
  | 3, _ => tt3
  | 4, _ => tt4
  | k + 5, h => absurd h (by omega)
end
end VI.K
namespace VI.K
open PySem PySem.Spec PyProof.Rows L2 VI
noncomputable section
section
variable {P : Program} {w : World} {K : PySem.W.Frag} {mg : Str → Option Value}
theorem law_ok (nm : Nm fa fns ex K mg) (gI : mg "int" = none) (gL : mg "len" = none) (gP : mg "_law_pen" = some (.ref (He.ga K "_law_pen"))) (gD : mg "_law_draw" = some (.ref (He.ga K "_law_draw"))) (gK : mg "_law_pick" = some (.ref (He.ga K "_law_pick"))) : LawOk P w K mg (He.fAd K d50.at_) := by
  intro base s H a ns KX G hO hS en
  obtain ⟨fd, F⟩ := nm.c.def_ 50 (d := d50) rfl
  obtain ⟨fdP, FP⟩ := nm.c.def_ 46 (d := d46) rfl
  obtain ⟨fdD, FD⟩ := nm.c.def_ 47 (d := d47) rfl
  obtain ⟨fdK, FK⟩ := nm.c.def_ 48 (d := d48) rfl
  have bL := FunD.bindsA (ps := ["script"]) F (fun _ _ _ _ _ _ us hl => match us, hl with | [_], _ => rfl) s [.ref a] rfl
  refine run_once (kk := 3 * dep + 2) (ps := ["script"]) (us := [.ref a]) (vs := [.ref a]) F sc50 ⟨rfl, by decide, by decide⟩ en bL (.cons rfl .nil) rfl fun cdv hr => ?_
  have e : Ev (Cc P w K) Tdf (XL P w K mg base (He.fAd K d50.at_) cdv callerA [] s H (fun _ _ _ => False)) prg (callF prg WW dep) (3 * dep) := ⟨rfl, rfl, rfl, hr, sc50.nd, rfl, lvD nm dep⟩
  have hgd : (XL P w K mg base (He.fAd K d50.at_) cdv callerA [] s H (fun _ _ _ => False)).A.guards = some [] := rfl
  have GP : FnOk P w K mg base CXn 1 _ fdP ["script"] (spPen K) := ok_pen FP gI
  have GK : FnOk P w K mg base CXn 2 _ fdK ["pen", "some"] spPick := ok_pick FK FD gI gL gD
  have bP : Binds K fdP ["script"] [] := FunD.bindsN FP fun _ _ _ _ _ _ us hl => match us, hl with | [_], _ => rfl
  have bK : Binds K fdK ["pen", "some"] [] := FunD.bindsN FK fun _ _ _ _ _ _ us hl => match us, hl with | [_, _], _ => rfl
  refine ⟨_, PSs.nox (pss_cons (st := ls0) (ps_asg (pe_call (E := fun _ _ _ => False) GP (hr.mono (by decide)) rfl gP FP.kp bP .nil (fun _ _ _ _ _ _ _ z => z.elim) (pa_cons (pv 0) pa_nil)) (pg_name (i := 1) sc50.nd rfl (Or.inl rfl)))
    (pss_cons (lawS1 (W := WW) nm e hgd) (pss_cons (lawS2 (W := WW) nm e hgd) (pss_cons (st := ls3) (ps_asg (pe_call (E := fun _ _ _ => False) GK (hr.mono (by decide)) rfl gK FK.kp bK .nil (fun _ _ _ _ _ _ _ z => z.elim) (pa_cons (pv 1) (pa_cons (lawL3 nm e hgd .nil) pa_nil))) (pg_name (i := 6) sc50.nd rfl (Or.inl rfl)))
    (pss_cons (lawS4 (W := WW) nm e hgd) (pss_cons (lawS5 (W := WW) nm e hgd) (pss_cons (lawS6 (W := WW) nm e hgd) (pss_cons (lawS7 (W := WW) nm e hgd) (pss_cons (lawS8 (W := WW) nm e hgd) (pss_cons (lawS9 (W := WW) nm e hgd) (pss_cons (lawS10 (W := WW) nm e hgd) (pss_cons (lawS11 (W := WW) nm e hgd)
    (pss_cons (st := ls12) (ps_for e.own e.calm (lawI12 nm e hgd) (lawG12 nm e hgd) (lawB12 (W := WW) nm e hgd)) (q_cons (lawS13 (W := WW) nm e hgd) (q_cons (lawS14 (W := WW) nm e hgd) (q_cons (lawS15 (W := WW) nm e hgd) (q_cons (lawS16 (W := WW) nm e hgd) q_nil))))))))))))))))), ?_⟩
  -- the pen
  refine ⟨.ref a, rfl, a, ns, rfl, hS, fun l z hl => ?_⟩
  have rhP : RH (Cc P w K) ((rf0 (Cc P w K)).put 0 l) (upd H l (.lst [.int z])) (hP z) := rh0.add (p := l) (q := .lst [.int z]) (o := .lst (.cons (.int z) .nil)) hl ⟨[.int z], upd_same, .int z, [], rfl, rfl, rfl⟩
  have rsP : RS ((rf0 (Cc P w K)).put 0 l) (upd H l (.lst [.int z])) slP ((L2.start N50 [.ref a]).set 1 (some (.ref l))) := ⟨⟨l, rfl, Rf.put_same _ _ _⟩, rs_of (s := .nil) (vs := []) (n := 19) rfl⟩
  refine chain_ok (C := Cc P w K) (p := prg) (call := callF prg WW dep) (w := WW) [lv_1, lv_2] rhP rsP (eA z) fun r1 H1 σ1 l1 k1 rh1 rs1 => ?_
  -- the pick
  obtain ⟨v1, hv1, pv1⟩ := rs1.get (i := 1) (u := .ref 0) (by kernel_rfl)
  obtain ⟨q1, rfl, hq1⟩ := (show ∃ a, v1 = .ref a ∧ r1.ρ 0 = some a from pv1)
  refine ⟨.ref q1, hv1, r1, hP z, slA, _, hP z, rh1, rs1, eL z, fun r2 H2 vb l2 k2 rh2 p2 => ?_⟩
  obtain ⟨b, o, xs, rfl, hb, hxs, _⟩ := (show ∃ a o xs, vb = .ref a ∧ H2 a = some (.frz o (.lst xs)) ∧ RpL r2 H2 (spOf lu) xs ∧ Dep (dpOf lu) (spOf lu) from p2)
  obtain ⟨q2, hq2, xl, hl2, hxl⟩ := rh2.obj 0 (.lst (.cons (.int z) .nil)) rfl
  have eq : q2 = q1 := by have := l2.ρ _ _ hq1; rw [hq2] at this; exact Option.some.inj this
  subst eq
  obtain ⟨y, ys, rfl, hy, hys⟩ := (show ∃ x xs, xl = x :: xs ∧ Rp r2 H2 (.int z) x ∧ RpL r2 H2 .nil xs from hxl)
  cases (show y = .int z from hy)
  cases (show ys = [] from hys)
  have hlen : xs.length = 5 := hxs.length.trans five
  refine ⟨q2, b, o, z, xs, rfl, hl2, hb, (by intro n; rw [n] at hlen; cases hlen), fun i x s' hx => ?_⟩
  have hi : i < 5 := by
    have := (List.getElem?_eq_some_iff.mp hx).1
    omega
  obtain ⟨u, hu⟩ := nthU_some (s := spOf lu) (i := i) (by rw [five]; exact hi)
  obtain ⟨x', hx', pu⟩ := (nthU_ok (i := i) hxs).1 u hu
  rw [hx] at hx'; cases hx'
  have eu : item (spOf lu) i = u := nthU_item hu
  have c4 := c4A i hi
  obtain ⟨n0, c4⟩ := He.ba c4
  obtain ⟨n1, c4⟩ := He.ba c4
  obtain ⟨n2, c4⟩ := He.ba c4
  obtain ⟨n3, c4⟩ := He.ba c4
  have hclen : (csp i).len = 21 := nat_beq_iff.mp c4
  have kq3 : Kq H2 (upd H2 q2 (.lst [.int s'])) := kq_upd hl2 (fun _ z => by cases z) (fun _ _ z => by cases z)
  have rs2 : RS r2 H2 (slA.set 6 u) (σ1.set 6 (some x)) := (rs1.mono l2 k2).set 6 pu
  have rs3 : RS r2 H2 (slB (item (spOf lu) i)) (σ1.set 6 (some x)) := by rw [eu]; exact (rs2.unset 1 none).2
  have rs4 : RS (rf0 (Cc P w K)) (upd H2 q2 (.lst [.int s'])) (slB (item (spOf lu) i)) (σ1.set 6 (some x)) := (RS.anew (C := Cc P w K) rh2.G rh2.w n1 rs3).monoq (Rf.Le.refl _) kq3
  refine chain_goes (C := Cc P w K) (p := prg) (call := callF prg WW dep) (w := WW) (l := [lv_4, lv_5, lv_6, lv_7, lv_8, lv_9, lv_10, lv_11]) (s := sl4 i) rs4 n0 (e4A i hi) fun H5 σ5 k5 rs5 => ?_
  -- the cases
  refine for_goes (C := Cc P w K) (p := prg) (call := callF prg WW dep) (w := WW) (s := slS) (s4 := sl4 i) rs5 n4 n2 (w4A i hi) n3 (fun k hk => ttA i hi k (by rw [hclen] at hk; exact hk)) fun H6 σ6 k6 rs6 => ?_
  exact t_true (s2 := slS) rs6 eR fun _ => rfl
end
end
end VI.K
set_option maxHeartbeats 0
namespace VI.K
open PySem PySem.Spec PyProof.Rows L2 VI
noncomputable section
def nms0 : List Str := ["__name__", "LETTERS", "MOST_LETTERS", "is_integer", "is_listed", "is_row", "is_name", "are_so_many", "OpenError", "BadValue", "BadRule", "BadDeed", "Misfit", "fixed", "MARK", "TO", "is_mark", "is_right", "is_value", "order_of", "in_order", "message_order", "are_ascending", "MOST_MARKS", "MOST_PARTS", "MOST_PEOPLE", "MOST_WORDS", "MOST_STATES", "MOST_SLOTS", "MOST_RULES"]
def nms1 : List Str := ["MOST_WHENS", "MOST_ACTS", "MOST_HOLDS", "ARG", "SLOT", "SAME", "IS", "HAS", "KEEP", "SEND", "is_word", "is_term", "is_when", "is_act", "Rule", "are_names", "slots_in", "Part", "Person", "values_in", "World", "need_world", "is_value_of", "is_right_of", "is_message_of", "is_count", "SENT", "ARRIVE", "LOSE", "MEND"]
def nms2 : List Str := ["first_standing", "told", "is_so", "rule_for", "heard", "mended", "air_rows", "air_of", "first_spot", "with_more", "with_less", "is_deed", "can_do", "done", "is_holding", "is_standing", "is_air", "is_spot", "need_spot", "need_deeds", "play", "_law_pen", "_law_draw", "_law_pick", "_law_one"]
def nms : List Str := nms0 ++ nms1 ++ nms2
abbrev RR5 : PySem.W.OpenRow := PySem.W.OpenLaw.row PySem.Challenge.rw_openagain_k05_known_rules
abbrev hk : PySem.W.Hook := He.hookX 4 fa fns [] [] ex
def ob (s : PySem.W.SharedT) : He.AlX := He.obsX 4 fa fns [] [] ex (HandSHeadRun.getT s)
theorem ob_eq (s : PySem.W.SharedT) : ob s = hk.obs s.abs := He.obsX_eq (HandSHeadRun.getT_eq s)
theorem run (w : World) : HandSHeadRun.RunEq RR5 (PySem.W.view RR5.prog [91]) hk ob 6000 nms w := by
  intro os
  kernel_rfl
end
end VI.K
set_option maxHeartbeats 0
open PySem PySem.W PySem.Calls PyProof.Rows
theorem PySem.Challenge.cw_openagain_k05_known_rules_holds : PySem.Challenge.rw_openagain_k05_known_rules.Holds := by
  w_on; o_law
  refine HandSHeadRun.head_any (r := OpenLaw.row PySem.Challenge.rw_openagain_k05_known_rules) (q := view (OpenLaw.row PySem.Challenge.rw_openagain_k05_known_rules).prog [91]) (H := VI.K.hk) (ob := VI.K.ob) (M := 6000) (loose := VI.K.nms) (d := HandSHeadRun.topDef (OpenLaw.row PySem.Challenge.rw_openagain_k05_known_rules).prog 91) (kwd := []) VI.K.ob_eq
    (by kernel_rfl) (fun s => by kernel_rfl) VI.K.run (by kernel_rfl) (by kernel_rfl) (by kernel_rfl) (by rfl) (by first | assumption | decide +kernel) (by decide +kernel) ⟨rfl, rfl, rfl, rfl, rfl, by decide +kernel⟩ ?hw ?hc
  case hw => w_witness2
  case hc =>
    refine VI.walk_once (l := PySem.Challenge.rw_openagain_k05_known_rules) (n := 63) rfl (by decide) (by kernel_rfl) ?_
    intro w mg fA h Y G hmg0
    obtain ⟨K, KX, c⟩ := Y
    have nm : VI.Nm VI.K.fa VI.K.fns VI.K.ex K mg := ⟨⟨h, KX, G⟩, c.t.d, c.more⟩
    have hmg : mg ("law" : PySem.Str) = some (.ref fA) := by
      have e : (HandSHeadRun.topDef (OpenLaw.row PySem.Challenge.rw_openagain_k05_known_rules).prog 91).name = ("law" : PySem.Str) := by kernel_rfl
      rw [← e]
      exact hmg0
    have e := hmg.symm.trans (nm.glo 177)
    cases e
    exact ⟨K, KX, VI.K.law_ok nm (nm.free 2) (nm.free 5) (nm.glo 89) (nm.glo 90) (nm.glo 91)⟩
