import PyProof.Rows.All
import Wide.All
import OpenK.AllK
import Wide.FinOn
import HandS.ForMost
import HandS.ForExc
import HandS.Wide
import HandS.TupAny
import HandS.TupMul
import HandS.Deep
import HandS.IsInst
import HandS.SortInts
import KE.SortData
import KE.KDictKeyed
import KE.KDictDisplayH
import KE.KDictWalk
import HandS.ExcIs
import HandS.ExcCtx
import HandS.ExcOwn
import HandS.TryMany
import HandS.TryOnly
import HandS.RaiseMore
import HandS.ExcInit
import HandS.ExcField
import HandS.SetKeys
import HandS.More
import HandS.Text
import KE.GoesMore
import HandS.Zip
import KE.GoesZip
import HandS.Rev
import KE.GoesRaise
import HandS.Small
import HandS.Iter
import HandS.SetFor
import HandS.Strs
import HandS.Conv
import KE.KDictList
import HandS.Style
import HandS.List
import KE.KExcLine
import HandS.WordsExc
import HandS.Defaults
import HandS.Ends
import HandS.EndBits
import KE.OsRunLaw
import PySem.Challenge.RW_traylate_k13_programs_shown
section
set_option maxRecDepth 100000
set_option Elab.async false
open PySem PySem.W PyProof.Rows
structure PySem.Challenge.Hd6 (R S : Prop) where
  A : Prop
  B : Prop
  C : Prop
  D : Prop
  E : Prop
  T : Prop
  run : A → B → C → D → E → T → S → R
theorem PySem.Challenge.hl_all {W O α b1 b2 b3 b4 b5 b6 b7 b8 b9 c : Type} {o : W → O → Option α} {l : W → O → α → Bool} {f1 : W → O → α → b1} {f2 : W → O → α → b2} {f3 : W → O → α → b3} {f4 : W → O → α → b4} {f5 : W → O → α → b5} {f6 : W → O → α → b6}
    {f7 : W → O → α → b7} {f8 : W → O → α → b8} {f9 : W → O → α → b9} {ob : W → O → α → c} {a1 : W → O → b1} {a2 : W → O → b2} {a3 : W → O → b3} {a4 : W → O → b4} {a5 : W → O → b5} {a6 : W → O → b6} {a7 : W → O → b7} {a8 : W → O → b8} {a9 : W → O → b9} {oa : W → O → c}
    (hA : ∀ w k, some (true, a1 w k) = (o w k).map (fun s => (l w k s, f1 w k s))) (hB : ∀ w k, some (a2 w k, a3 w k, a4 w k, a5 w k) = (o w k).map (fun s => (f2 w k s, f3 w k s, f4 w k s, f5 w k s)))
    (hC : ∀ w k, some (a6 w k) = (o w k).map (f6 w k)) (hD : ∀ w k, some (a7 w k, a8 w k, a9 w k) = (o w k).map (fun s => (f7 w k s, f8 w k s, f9 w k s))) (hE : ∀ w k, some (oa w k) = (o w k).map (ob w k)) (_ : (0 : Nat) = 0) :
    ∀ w k, (o w k).map (fun s => (l w k s, (f1 w k s, f2 w k s, f3 w k s, f4 w k s, f5 w k s, f6 w k s, f7 w k s, f8 w k s, f9 w k s), ob w k s)) = some (true, (a1 w k, a2 w k, a3 w k, a4 w k, a5 w k, a6 w k, a7 w k, a8 w k, a9 w k), oa w k) := fun w k => by
  have hA := hA w k
  have hB := hB w k
  have hC := hC w k
  have hD := hD w k
  have hE := hE w k
  cases e : o w k with
  | none => rw [e] at hA; cases hA
  | some s =>
    rw [e] at hA hB hC hD hE
    have hA : some (l w k s, f1 w k s) = some (true, a1 w k) := hA.symm
    have hB : some (f2 w k s, f3 w k s, f4 w k s, f5 w k s) = some (a2 w k, a3 w k, a4 w k, a5 w k) := hB.symm
    have hC : some (f6 w k s) = some (a6 w k) := hC.symm
    have hD : some (f7 w k s, f8 w k s, f9 w k s) = some (a7 w k, a8 w k, a9 w k) := hD.symm
    have hE : some (ob w k s) = some (oa w k) := hE.symm
    show some (l w k s, (f1 w k s, f2 w k s, f3 w k s, f4 w k s, f5 w k s, f6 w k s, f7 w k s, f8 w k s, f9 w k s), ob w k s) = _
    injection hA with hA; injection hA with hA1 hA2
    injection hB with hB; injection hB with hB1 hB; injection hB with hB2 hB; injection hB with hB3 hB4
    injection hC with hC
    injection hD with hD; injection hD with hD1 hD; injection hD with hD2 hD3
    injection hE with hE
    rw [hA1, hA2, hB1, hB2, hB3, hB4, hC, hD1, hD2, hD3, hE]
local macro_rules
  | `(tactic| intro $x:ident $y:ident) => if x.getId.eraseMacroScopes == `w && y.getId.eraseMacroScopes == `os then
      `(tactic| (refine PySem.Challenge.hl_all ?pA ?pB ?pC ?pD ?pE ?_; (case pA => exact $(Lean.mkIdent `hA)); (case pB => exact $(Lean.mkIdent `hB)); (case pC => exact $(Lean.mkIdent `hC)); (case pD => exact $(Lean.mkIdent `hD)); (case pE => exact $(Lean.mkIdent `hE))))
    else Lean.Macro.throwUnsupported
  | `(tactic| refine $f:ident $args*) =>
    match args.back? with
    | some l =>
      if l.raw.isOfKind ``Lean.Parser.Term.syntheticHole && l.raw[1].getId.eraseMacroScopes == `hc then do
        let c := Lean.mkIdent `hcc
        `(tactic| (refine $f $(args.pop.push ⟨(← `(?$c)).raw⟩)*; case $c:ident => exact $(Lean.mkIdent `hT)))
      else Lean.Macro.throwUnsupported
    | none => Lean.Macro.throwUnsupported
set_option maxHeartbeats 0 in
noncomputable def PySem.Challenge.hd_traylate_k13_programs_shown : PySem.Challenge.Hd6 PySem.Challenge.rw_traylate_k13_programs_shown.row.Holds (PySem.Challenge.rw_traylate_k13_programs_shown.row.wellSaid = true) := by
  apply PySem.Challenge.Hd6.mk
  intro hA hB hC hD hE hT said
  w_on; k_headL; (case hw => w_witness2)
end
section
set_option maxRecDepth 100000
set_option Elab.async false
open PySem PySem.W PyProof.Rows
set_option maxHeartbeats 0 in
theorem PySem.Challenge.hdA_traylate_k13_programs_shown : PySem.Challenge.hd_traylate_k13_programs_shown.A := by
  delta PySem.Challenge.hd_traylate_k13_programs_shown
  dsimp only
  intro w os
  kernel_rfl
set_option maxHeartbeats 0 in
theorem PySem.Challenge.hdB_traylate_k13_programs_shown : PySem.Challenge.hd_traylate_k13_programs_shown.B := by
  delta PySem.Challenge.hd_traylate_k13_programs_shown
  dsimp only
  intro w os
  kernel_rfl
set_option maxHeartbeats 0 in
theorem PySem.Challenge.hdC_traylate_k13_programs_shown : PySem.Challenge.hd_traylate_k13_programs_shown.C := by
  delta PySem.Challenge.hd_traylate_k13_programs_shown
  dsimp only
  intro w os
  kernel_rfl
set_option maxHeartbeats 0 in
theorem PySem.Challenge.hdD_traylate_k13_programs_shown : PySem.Challenge.hd_traylate_k13_programs_shown.D := by
  delta PySem.Challenge.hd_traylate_k13_programs_shown
  dsimp only
  intro w os
  kernel_rfl
set_option maxHeartbeats 0 in
theorem PySem.Challenge.hdE_traylate_k13_programs_shown : PySem.Challenge.hd_traylate_k13_programs_shown.E := by
  delta PySem.Challenge.hd_traylate_k13_programs_shown
  dsimp only
  intro w os
  kernel_rfl
end
set_option Elab.async false
set_option linter.all false
set_option maxRecDepth 100000
/-! Mini, part 1: values, heap, the IR and its interpreter. -/
namespace L2.Mini
open PySem

/-- values: pure trees, but for ref (a node of the small heap) -/
inductive D where
  | non | bl (b : Bool) | int (i : Int) | str (x : Str)
  | tup (xs : List D) | lst (xs : List D)
  /-- a list that may be the module's own (the script) -/
  | scr (xs : List D)
  | ref (n : Nat)
  | ins (c : Nat) (fs : List (Nat × D))
  deriving Inhabited

inductive Node where
  | lst (xs : List D)
  | dic (kvs : List (D × D))
  | ins (c : Nat) (fs : List (Nat × D))
  | dead
  /-- a dict whose keys are tuples -/
  | dit (kvs : List (D × D))
  deriving Inhabited

abbrev Hm := List Node
abbrev En := List (Option D)

inductive Res (α : Type) where
  | ok (a : α) (h : Hm)
  | exc (c : Nat) (fs : List (Nat × D)) (h : Hm)
  | stuck
  deriving Inhabited

def Res.bind {α β : Type} : Res α → (α → Hm → Res β) → Res β
  | .ok a h, k => k a h
  | .exc c fs h, _ => .exc c fs h
  | .stuck, _ => .stuck
@[simp] theorem bind_ok {α β : Type} (a : α) (h : Hm) (k : α → Hm → Res β) : (Res.ok a h).bind k = k a h := rfl
@[simp] theorem bind_exc {α β : Type} (c : Nat) (fs : List (Nat × D)) (h : Hm) (k : α → Hm → Res β) : (Res.exc c fs h).bind k = .exc c fs h := rfl
@[simp] theorem bind_stuck {α β : Type} (k : α → Hm → Res β) : (Res.stuck : Res α).bind k = .stuck := rfl

/-- a statement's end -/
inductive Fl where
  | next | brk | cont | ret (d : D)
  deriving Inhabited
inductive SRes where
  | ok (f : Fl) (ρ : En) (h : Hm)
  | exc (c : Nat) (fs : List (Nat × D)) (ρ : En) (h : Hm)
  | stuck
  deriving Inhabited

/-! ### the IR -/
inductive Bop where | add | sub | mul | fdiv | mod | pow | shl | shr | band | bor | bxor
  deriving DecidableEq
inductive Cop where | eq | ne | lt | le | gt | ge | isN | notN | inn | notin
  deriving DecidableEq
/-- built-in calls -/
inductive Bi where | len | intOf | strOf | listOf | tupOf | max1 | max2 | min2 | sum | all | sorted | sortedSet | lenSet | revZip
  deriving DecidableEq
/-- built-in methods -/
inductive Bm where | append | pop | popAt | insert | clear | index | get | setdefault | update | split | join | replace | isdigit
  deriving DecidableEq
inductive Ty where | int | bool | str | tuple | list | listTuple
  deriving DecidableEq
inductive Pt where
  | one (i : Nat)
  | tup (is : List Nat)
inductive Cst where | non | bl (b : Bool) | int (i : Int) | str (x : Str)
  deriving DecidableEq

mutual
inductive E where
  | no
  | var (i : Nat)
  | con (c : Cst)
  /-- a global text -/
  | globT (n : Nat) (x : Str)
  | glob (x : Nat) (i : Int)
  | bin (op : Bop) (mk : Bool) (a b : E)
  | neg (a : E) | inv (a : E)
  | cmp (op : Cop) (a b : E)
  | chain (o1 o2 : Cop) (a b c : E)
  | bool (and : Bool) (es : List E)
  | not (a : E)
  | ife (c a b : E)
  | tup (es : List E)
  | lst (mk : Bool) (es : List E)
  | dic
  /-- a dict's display -/
  | disp (es : List E)
  /-- {}, to hold tuples as keys; {k: v} of such a key; sorted(d) of such a dict -/
  | ditn
  | dit1 (k v : E)
  | sdit (mk : Bool) (a : E)
  /-- list(range(a)) -/
  | lrng (mk : Bool) (a : E)
  /-- len(set(a)) -/
  | lset (a : E)
  /-- list(zip(a, b)) -/
  | lzip (mk : Bool) (a b : E)
  /-- tuple(reversed(a)) -/
  | tupRev (a : E)
  /-- a[::2], of a tuple -/
  | two (a : E)
  | idx (a i : E)
  | cut (mk : Bool) (a : E) (lo hi : Option E)
  | attr (a : E) (f : Nat)
  | call (i : Nat) (es : List E) (ds : List Cst)
  | make (c : Nat) (es : List E) (ds : List Cst)
  | meth (a : E) (m : Nat) (es : List E)
  | bi (b : Bi) (mk : Bool) (es : List E)
  | bm (b : Bm) (mk : Bool) (a : E) (es : List E)
  | isa (a : E) (t : Ty)
  | comp (mk : Bool) (elt : E) (p : Pt) (it : It) (cond : Option E) (own : List Nat)
  /-- one whose exceptions go out -/
  | compX (mk : Bool) (elt : E) (p : Pt) (it : It) (cond : Option E) (own : List Nat)
  | frz (a : E)
  | exIs (c : Nat)
  | exVE
  | sset (mk : Bool) (a : E)
  | exFld (f : Nat)
inductive It where
  | seq (e : E)
  | range1 (a : E)
  | range2 (a b : E)
  | enum (e : E)
  /-- a text, sign by sign -/
  | chars (e : E)
  | zip (a b : E)
  | rev (e : E)
end

mutual
inductive S where
  | no
  | set (p : Pt) (e : E)
  | setA (o : E) (f : Nat) (e : E)
  | setI (o i e : E)
  | aug (i : Nat) (op : Bop) (e : E)
  | expr (e : E)
  | ret (e : E)
  | retN
  | ite (c : E) (a b : List S)
  | whil (c : E) (b : List S)
  | forr (p : Pt) (it : It) (b : List S)
  /-- for p in d, d a local that holds a dict with tuples as keys -/
  | forD (p : Pt) (i : Nat) (b : List S)
  /-- a try whose body raises nothing -/
  | tryN (b : List S)
  | raise (c : Nat) (es : List E)
  | try_ (b : List S) (hs : List Hd)
  | pass | brk | cont
inductive Hd where
  | mk (cs : List Nat) (slot : Option Nat) (suite : List S)
end

def Cst.d : Cst → D
  | .non => .non | .bl b => .bl b | .int i => .int i | .str x => .str x

/-! ### equality of data, freezing -/
mutual
def viewP (f : Nat → Option PyData) : D → Option PyData
  | .non => some .none
  | .bl b => some (.bool b)
  | .int i => some (.int i)
  | .str x => some (.str x)
  | .tup xs => (viewPs f xs).map .tuple
  | .lst xs => (viewPs f xs).map .list
  | .scr xs => (viewPs f xs).map .list
  | .ref n => f n
  | .ins _ _ => none
def viewPs (f : Nat → Option PyData) : List D → Option (List PyData)
  | [] => some []
  | x :: xs => match viewP f x, viewPs f xs with
    | some d, some ds => some (d :: ds)
    | _, _ => none
end
/-- a node's items, k levels of nodes deep -/
def look (h : Hm) : Nat → Nat → Option PyData
  | 0, _ => none
  | k + 1, n => match h[n]? with
    | some (.lst xs) => (viewPs (look h k) xs).map .list
    | _ => none
def view (h : Hm) (d : D) : Option PyData := viewP (look h 3) d
def eqD (h : Hm) (a b : D) : Option Bool := match view h a, view h b with
  | some x, some y => if SeqAt.shaped x && SeqAt.shaped y then some (PyData.eqv x y) else none
  | _, _ => none

mutual
/-- no node is meant -/
def isP : D → Bool
  | .ref _ => false
  | .tup xs => isPs xs
  | .lst xs => isPs xs
  | .scr xs => isPs xs
  | .ins _ fs => isPF fs
  | _ => true
def isPs : List D → Bool
  | [] => true
  | x :: xs => isP x && isPs xs
def isPF : List (Nat × D) → Bool
  | [] => true
  | (_, x) :: xs => isP x && isPF xs
end
def isPN : Node → Bool
  | .lst xs => isPs xs
  | .dic kvs => kvs.all fun p => isP p.1 && isP p.2
  | .ins _ fs => isPF fs
  | .dead => true
  | .dit kvs => kvs.all fun p => isP p.1 && isP p.2

mutual
/-- every node meant is below n -/
def below (n : Nat) : D → Bool
  | .ref m => decide (m < n)
  | .tup xs => belows n xs
  | .lst xs => belows n xs
  | .scr xs => belows n xs
  | .ins _ fs => belowF n fs
  | _ => true
def belows (n : Nat) : List D → Bool
  | [] => true
  | x :: xs => below n x && belows n xs
def belowF (n : Nat) : List (Nat × D) → Bool
  | [] => true
  | (_, x) :: xs => below n x && belowF n xs
end
def belowN (n : Nat) : Node → Bool
  | .lst xs => belows n xs
  | .dic kvs => kvs.all fun p => below n p.1 && below n p.2
  | .ins _ fs => belowF n fs
  | .dead => true
  | .dit kvs => kvs.all fun p => below n p.1 && below n p.2
/-! ### plain data -/
mutual
def pd : D → PyData
  | .non => .none
  | .bl b => .bool b
  | .int i => .int i
  | .str x => .str x
  | .tup xs => .tuple (pds xs)
  | .lst xs => .list (pds xs)
  | .scr xs => .list (pds xs)
  | .ref _ => .none
  | .ins _ _ => .none
def pds : List D → List PyData
  | [] => []
  | x :: xs => pd x :: pds xs
end
mutual
def plainD : D → Bool
  | .tup xs => plainDs xs
  | .lst xs => plainDs xs
  | .scr xs => plainDs xs
  | .ref _ => false
  | .ins _ _ => false
  | _ => true
def plainDs : List D → Bool
  | [] => true
  | x :: xs => plainD x && plainDs xs
end
mutual
theorem viewP_plain {f : Nat → Option PyData} : ∀ {d : D}, plainD d = true → viewP f d = some (pd d)
  | .non, _ => rfl | .bl _, _ => rfl | .int _, _ => rfl | .str _, _ => rfl
  | .tup xs, h => by
    show (viewPs f xs).map PyData.tuple = _
    rw [viewPs_plain (xs := xs) h]; rfl
  | .lst xs, h => by
    show (viewPs f xs).map PyData.list = _
    rw [viewPs_plain (xs := xs) h]; rfl
  | .scr xs, h => by
    show (viewPs f xs).map PyData.list = _
    rw [viewPs_plain (xs := xs) h]; rfl
  | .ref _, h => by cases h
  | .ins _ _, h => by cases h
theorem viewPs_plain {f : Nat → Option PyData} : ∀ {xs : List D}, plainDs xs = true → viewPs f xs = some (pds xs)
  | [], _ => rfl
  | x :: xs, h => by
    have h' : (plainD x && plainDs xs) = true := h
    simp only [Bool.and_eq_true] at h'
    show (match viewP f x, viewPs f xs with | some d, some ds => some (d :: ds) | _, _ => none) = _
    rw [viewP_plain h'.1, viewPs_plain h'.2]; rfl
end
end L2.Mini
set_option Elab.async false
set_option linter.all false
set_option maxRecDepth 100000
/-! Mini, part 2: the interpreter. -/
namespace L2.Mini
open PySem L2

/-! ### sameness -/
mutual
def same : D → D → Bool
  | .non, .non => true
  | .bl a, .bl b => a == b
  | .int a, .int b => a == b
  | .str a, .str b => a == b
  | .tup a, .tup b => sames a b
  | .lst a, .lst b => sames a b
  | .scr a, .scr b => sames a b
  | .ref a, .ref b => a == b
  | .ins c a, .ins d b => c == d && sameF a b
  | _, _ => false
def sames : List D → List D → Bool
  | [], [] => true
  | x :: xs, y :: ys => same x y && sames xs ys
  | _, _ => false
def sameF : List (Nat × D) → List (Nat × D) → Bool
  | [], [] => true
  | (i, x) :: xs, (j, y) :: ys => i == j && same x y && sameF xs ys
  | _, _ => false
end
mutual
theorem same_eq : ∀ {a b : D}, same a b = true → a = b
  | .non, b, h => by cases b <;> simp [same] at h <;> rfl
  | .bl _, b, h => by cases b <;> simp [same] at h <;> rw [h]
  | .int _, b, h => by cases b <;> simp [same] at h <;> rw [h]
  | .str _, b, h => by cases b <;> simp [same] at h <;> rw [h]
  | .tup a, b, h => by
    cases b <;> simp [same] at h
    rw [sames_eq h]
  | .lst a, b, h => by
    cases b <;> simp [same] at h
    rw [sames_eq h]
  | .scr a, b, h => by
    cases b <;> simp [same] at h
    rw [sames_eq h]
  | .ref _, b, h => by cases b <;> simp [same] at h <;> rw [h]
  | .ins _ a, b, h => by
    cases b <;> simp [same] at h
    rw [h.1, sameF_eq h.2]
theorem sames_eq : ∀ {a b : List D}, sames a b = true → a = b
  | [], b, h => by cases b <;> simp [sames] at h <;> rfl
  | x :: xs, b, h => by
    cases b <;> simp [sames] at h
    rw [same_eq h.1, sames_eq h.2]
theorem sameF_eq : ∀ {a b : List (Nat × D)}, sameF a b = true → a = b
  | [], b, h => by cases b <;> simp [sameF] at h <;> rfl
  | (i, x) :: xs, b, h => by
    cases b with
    | nil => simp [sameF] at h
    | cons y ys =>
      obtain ⟨j, y⟩ := y
      simp [sameF] at h
      rw [h.1.1, same_eq h.1.2, sameF_eq h.2]
end
mutual
theorem same_refl : ∀ a : D, same a a = true
  | .non => rfl | .bl _ => by simp [same] | .int _ => by simp [same] | .str _ => by simp [same]
  | .tup a => by simp [same, sames_refl a]
  | .lst a => by simp [same, sames_refl a]
  | .scr a => by simp [same, sames_refl a]
  | .ref _ => by simp [same]
  | .ins _ a => by simp [same, sameF_refl a]
theorem sames_refl : ∀ a : List D, sames a a = true
  | [] => rfl
  | x :: xs => by simp [sames, same_refl x, sames_refl xs]
theorem sameF_refl : ∀ a : List (Nat × D), sameF a a = true
  | [] => rfl
  | (_, x) :: xs => by simp [sameF, same_refl x, sameF_refl xs]
end
instance : DecidableEq D := fun a b => if h : same a b = true then .isTrue (same_eq h) else .isFalse fun e => h (e ▸ same_refl a)
def sameN : Node → Node → Bool
  | .lst a, .lst b => decide (a = b)
  | .dic a, .dic b => decide (a = b)
  | .ins c a, .ins d b => c == d && decide (a = b)
  | .dead, .dead => true
  | .dit a, .dit b => decide (a = b)
  | _, _ => false
theorem sameN_eq : ∀ {a b : Node}, sameN a b = true → a = b
  | .lst a, b, h => by cases b <;> simp [sameN] at h <;> rw [h]
  | .dic a, b, h => by cases b <;> simp [sameN] at h <;> rw [h]
  | .ins c a, b, h => by
    cases b <;> simp [sameN] at h
    rw [h.1, h.2]
  | .dead, b, h => by cases b <;> simp [sameN] at h <;> rfl
  | .dit a, b, h => by cases b <;> simp [sameN] at h <;> rw [h]
theorem sameN_refl : ∀ a : Node, sameN a a = true := fun a => by cases a <;> simp [sameN]
instance : DecidableEq Node := fun a b => if h : sameN a b = true then .isTrue (sameN_eq h) else .isFalse fun e => h (e ▸ sameN_refl a)

/-! ### pieces -/
abbrev big : Nat := 16777216
structure Calls where
  /-- the def is there -/
  has : Nat → Bool
  /-- the def of the number -/
  fn : Nat → List D → Hm → Res D
  /-- the def of a class's method -/
  mt : Nat → Nat → Option Nat
  /-- a class's __init__ -/
  ini : Nat → Option Nat
  /-- the class stands under the other -/
  sub : Nat → Nat → Bool
  /-- the fields that an exception class's __init__ sets from its arguments (none: a text alone) -/
  xf : Nat → List Nat
  /-- an instance of the class may have the attribute -/
  fl : Nat → Nat → Bool
  /-- an exception class of the text, made of a text alone -/
  xok : Nat → Bool
  /-- the def may be called with these defaults behind what is written -/
  df : Nat → List Cst → Bool
  /-- an exception class with fields that may be raised here -/
  xi : Nat → Bool
  fuel : Nat

/-- a new list: a node, or a pure one -/
def newL (mk : Bool) (xs : List D) (h : Hm) : Res D :=
  if xs.length ≤ big then (if mk then .ok (.ref h.length) (h ++ [.lst xs]) else .ok (.lst xs) h) else .stuck
def getL (h : Hm) : D → Option (List D)
  | .lst xs => some xs
  | .scr xs => some xs
  | .ref n => match h[n]? with
    | some (.lst xs) => some xs
    | _ => none
  | _ => none
/-- .. but for the script -/
def getW (h : Hm) : D → Option (List D)
  | .scr _ => none
  | d => getL h d
/-- a list's or a tuple's items -/
def getS (h : Hm) : D → Option (List D)
  | .tup xs => some xs
  | d => getL h d
def toI : D → Option Int
  | .int i => some i
  | _ => none
def toS : D → Option Str
  | .str i => some i
  | _ => none
def toB : D → Option Bool
  | .bl i => some i
  | _ => none
def allM {α : Type} (f : D → Option α) : List D → Option (List α)
  | [] => some []
  | x :: xs => match f x, allM f xs with
    | some a, some r => some (a :: r)
    | _, _ => none
def isKey : D → Bool
  | .int _ => true
  | .str _ => true
  | _ => false
mutual
/-- a nested key -/
def nkD : D → Option NestedKey
  | .non => some .none
  | .int i => some (.num i)
  | .str x => some (.text x)
  | .tup xs => (nkDs xs).map .tup
  | _ => none
def nkDs : List D → Option (List NestedKey)
  | [] => some []
  | x :: xs => match nkD x, nkDs xs with
    | some k, some ks => some (k :: ks)
    | _, _ => none
end
/-- it may be a key of a dict with tuples as keys -/
def isTK : D → Bool
  | .tup xs => match nkD (.tup xs) with
    | some k => decide (k.depth ≤ 8)
    | none => false
  | _ => false
def dget (kvs : List (D × D)) (k : D) : Option D := (kvs.find? fun p => decide (p.1 = k)).map (·.2)
def dput (kvs : List (D × D)) (k v : D) : List (D × D) :=
  if (kvs.any fun p => decide (p.1 = k)) = true then kvs.map (fun p => if p.1 = k then (p.1, v) else p) else kvs ++ [(k, v)]

def opB (op : Bop) (mk : Bool) (x y : D) (h : Hm) : Res D :=
  match x, y with
  | .int i, .int j => match op with
    | .add => .ok (.int (i + j)) h
    | .sub => .ok (.int (i - j)) h
    | .mul => if i.natAbs.log2 + j.natAbs.log2 < 100000000 then .ok (.int (i * j)) h else .stuck
    | .fdiv => if 0 < j ∧ j.natAbs.log2 < 9000 then .ok (.int (i / j)) h else .stuck
    | .mod => if 0 < j then .ok (.int (i % j)) h else .stuck
    | .pow => if 0 ≤ j ∧ j ≤ 1000000 ∧ i.natAbs < 2 ^ 64 then .ok (.int (i ^ j.toNat)) h else .stuck
    | .shl => if 0 ≤ j ∧ j ≤ 1000000 ∧ i.natAbs < 2 ^ 64 then .ok (.int (i * 2 ^ j.toNat)) h else .stuck
    | .shr => if 0 ≤ j then .ok (.int (i / 2 ^ j.toNat)) h else .stuck
    | .band => .ok (.int (Builtin.bitAnd i j)) h
    | .bor => .ok (.int (Builtin.bitOr i j)) h
    | .bxor => .ok (.int (Builtin.bitXor i j)) h
  | .str a, .str b => match op with
    | .add => if a.length + b.length ≤ big then .ok (.str (a ++ b)) h else .stuck
    | _ => .stuck
  | .tup a, .tup b => match op with
    | .add => if a.length + b.length ≤ big then .ok (.tup (a ++ b)) h else .stuck
    | _ => .stuck
  | .tup a, .int k => match op with
    | .mul => if a ≠ [] ∧ 2 ≤ k ∧ k ≤ 1000 ∧ a.length ≤ 1000 then .ok (.tup (List.replicate k.toNat a).flatten) h else if a ≠ [] ∧ k = 0 then .ok (.tup []) h else .stuck
    | _ => .stuck
  | x, .int k => match op, getW h x with
    | .mul, some a => if -(2 ^ 63) ≤ k ∧ k < 2 ^ 63 ∧ a.length * k.toNat ≤ big then newL mk (List.replicate k.toNat a).flatten h else .stuck
    | _, _ => .stuck
  | x, y => match op, getW h x, getW h y with
    | .add, some a, some b => newL mk (a ++ b) h
    | _, _, _ => .stuck

def opC (op : Cop) (x y : D) (h : Hm) : Res D :=
  match op with
  | .eq => match eqD h x y with
    | some b => .ok (.bl b) h
    | none => .stuck
  | .ne => match eqD h x y with
    | some b => .ok (.bl (!b)) h
    | none => .stuck
  | .lt => match x, y with
    | .int i, .int j => .ok (.bl (decide (i < j))) h
    | _, _ => .stuck
  | .le => match x, y with
    | .int i, .int j => .ok (.bl (decide (i ≤ j))) h
    | _, _ => .stuck
  | .gt => match x, y with
    | .int i, .int j => .ok (.bl (decide (j < i))) h
    | _, _ => .stuck
  | .ge => match x, y with
    | .int i, .int j => .ok (.bl (decide (j ≤ i))) h
    | _, _ => .stuck
  | .isN => match y with
    | .non => .ok (.bl (decide (x = .non))) h
    | _ => .stuck
  | .notN => match y with
    | .non => .ok (.bl (!decide (x = .non))) h
    | _ => .stuck
  | .inn => inD x y h false
  | .notin => inD x y h true
where
  inD (x y : D) (h : Hm) (neg : Bool) : Res D := match x, y with
    | .str a, .str b => .ok (.bl (neg ^^ !(Builtin.Str.occurrences b a 0 b.length 1).isEmpty)) h
    | x, .ref n => match h[n]? with
      | some (.dic kvs) => if isKey x then .ok (.bl (neg ^^ (dget kvs x).isSome)) h else .stuck
      | some (.dit kvs) => if isTK x then .ok (.bl (neg ^^ (dget kvs x).isSome)) h else .stuck
      | _ => inL x y h neg
    | x, y => inL x y h neg
  inL (x y : D) (h : Hm) (neg : Bool) : Res D := match getS h y, view h x with
    | some _, some d => match view h y with
      | some (.list ds) => if SeqAt.shaped d && SeqAt.shaped (.list ds) then .ok (.bl (neg ^^ ds.any fun z => PyData.eqv z d)) h else .stuck
      | _ => .stuck
    | _, _ => .stuck

def maxI : List Int → Int
  | [] => 0
  | [x] => x
  | x :: y :: r => max x (maxI (y :: r))
/-- a list of ints, sorted; each once -/
def insI (x : Int) : List Int → List Int
  | [] => [x]
  | y :: r => if x ≤ y then x :: y :: r else y :: insI x r
def sortI : List Int → List Int
  | [] => []
  | x :: r => insI x (sortI r)
def insU (x : Int) : List Int → List Int
  | [] => [x]
  | y :: r => if x < y then x :: y :: r else if x = y then y :: r else y :: insU x r
def sortU : List Int → List Int
  | [] => []
  | x :: r => insU x (sortU r)

/-- it may be called where an exception is handled -/
def Bi.hot : Bi → Bool
  | .len => true | .intOf => true | .strOf => true | .listOf => true | .tupOf => true | _ => false
def lenD (d : D) (h : Hm) : Res D := match d with
  | .str x => if x.length ≤ big then .ok (.int x.length) h else .stuck
  | d => match getS h d with
    | some xs => .ok (.int xs.length) h
    | none => .stuck
def intD (d : D) (h : Hm) : Res D := match d with
  | .int i => .ok (.int i) h
  | .bl b => .ok (.int (if b then 1 else 0)) h
  | .str x => if x.length ≤ 640 then (match intText? x with
    | some n => .ok (.int n) h
    | none => .stuck) else .stuck
  | _ => .stuck
def strD (d : D) (h : Hm) : Res D := match d with
  | .int i => if i.natAbs.log2 < 1920 then .ok (.str (toString i)) h else .stuck
  | .str x => .ok (.str x) h
  | _ => .stuck
def listD (mk : Bool) (d : D) (h : Hm) : Res D := match getS h d with
  | some xs => newL mk xs h
  | none => .stuck
def tupleD (d : D) (h : Hm) : Res D := match getS h d with
  | some xs => .ok (.tup xs) h
  | none => .stuck
/-- a list of ints, of bools -/
def intsD (d : D) (h : Hm) : Option (List Int) := (getL h d).bind (allM toI)
def boolsD (d : D) (h : Hm) : Option (List Bool) := (getL h d).bind (allM toB)
def max1D (d : D) (h : Hm) : Res D := match intsD d h with
  | some (i :: is) => .ok (.int (maxI (i :: is))) h
  | _ => .stuck
def sumD (d : D) (h : Hm) : Res D := match intsD d h with
  | some is => .ok (.int is.sum) h
  | _ => .stuck
def allD (d : D) (h : Hm) : Res D := match boolsD d h with
  | some bs => .ok (.bl (bs.all id)) h
  | _ => .stuck
/-- a list of tuples of like parts, sorted -/
def isTupC : D → Bool
  | .tup (_ :: _) => true
  | _ => false
def sortOk (xs : List D) : Bool := (xs.all fun x => isTupC x && plainD x && decide ((pd x).depth ≤ 60)) && xs.all fun x => xs.all fun y => PySem.W.alike (pd x) (pd y)
def sortT (xs : List D) : List D := xs.mergeSort (PySem.W.dataLe false pd)
def sortedD (mk : Bool) (d : D) (h : Hm) : Res D := match intsD d h with
  | some is => newL mk ((sortI is).map .int) h
  | none => match getL h d with
    | some xs => if sortOk xs = true then newL mk (sortT xs) h else .stuck
    | none => .stuck
def sortedSetD (mk : Bool) (d : D) (h : Hm) : Res D := match intsD d h with
  | some is => if is.length < 4000 ∧ (sortU is).length < 60 then newL mk ((sortU is).map .int) h else .stuck
  | _ => .stuck
def two2 (f : Int → Int → Int) (x y : D) (h : Hm) : Res D := match x, y with
  | .int i, .int j => .ok (.int (f i j)) h
  | _, _ => .stuck
def bi1 (b : Bi) (mk : Bool) (d : D) (h : Hm) : Res D := match b with
  | .len => lenD d h
  | .intOf => intD d h
  | .strOf => strD d h
  | .listOf => listD mk d h
  | .tupOf => tupleD d h
  | .max1 => max1D d h
  | .sum => sumD d h
  | .all => allD d h
  | .sorted => sortedD mk d h
  | .sortedSet => sortedSetD mk d h
  | _ => .stuck
def bi2 (b : Bi) (x y : D) (h : Hm) : Res D := match b with
  | .max2 => two2 (fun i j => if j > i then j else i) x y h
  | .min2 => two2 (fun i j => if j < i then j else i) x y h
  | _ => .stuck
def biCall (b : Bi) (mk : Bool) (xs : List D) (h : Hm) : Res D :=
  match xs with
  | [d] => bi1 b mk d h
  | [x, y] => bi2 b x y h
  | _ => .stuck

/-- a dict that is a node -/
def nodeD (x : D) (h : Hm) : Option (Nat × List (D × D)) := match x with
  | .ref n => match h[n]? with
    | some (.dic kvs) => some (n, kvs)
    | _ => none
  | _ => none
/-- a list that is a node -/
def nodeL (x : D) (h : Hm) : Option (Nat × List D) := match x with
  | .ref n => match h[n]? with
    | some (.lst xs) => some (n, xs)
    | _ => none
  | _ => none
def appendD (x y : D) (h : Hm) : Res D := match nodeL x h with
  | some (n, xs) => if xs.length < big then .ok .non (h.set n (.lst (xs ++ [y]))) else .stuck
  | none => .stuck
def popD (x : D) (h : Hm) : Res D := match nodeL x h with
  | some (n, xs) => match xs[xs.length - 1]? with
    | some y => .ok y (h.set n (.lst xs.dropLast))
    | none => .stuck
  | none => .stuck
def popAtD (x i : D) (h : Hm) : Res D := match nodeL x h, i with
  | some (n, xs), .int i => match ixN xs.length i with
    | some j => match xs[j]? with
      | some y => .ok y (h.set n (.lst (xs.eraseIdx j)))
      | none => .stuck
    | none => .stuck
  | _, _ => .stuck
def insertD (x i y : D) (h : Hm) : Res D := match nodeL x h, i with
  | some (n, xs), .int i => if decide (xs.length < big) && decide (0 ≤ i ∧ i < 2 ^ 63) then .ok .non (h.set n (.lst (xs.take i.toNat ++ [y] ++ xs.drop i.toNat))) else .stuck
  | _, _ => .stuck
def clearD (x : D) (h : Hm) : Res D := match nodeL x h with
  | some (n, _) => .ok .non (h.set n (.lst []))
  | none => .stuck
/-- the first place of an equal one -/
def firstEq (d : PyData) : List PyData → Option Nat
  | [] => none
  | z :: r => if PyData.eqv z d then some 0 else (firstEq d r).map (· + 1)
def indexD (x y : D) (h : Hm) : Res D := match view h x, view h y with
  | some (.list ds), some d => if SeqAt.shaped (.list ds) && SeqAt.shaped d then (match firstEq d ds with
    | some j => .ok (.int (j : Nat)) h
    | none => .stuck) else .stuck
  | _, _ => .stuck
def bm0 (b : Bm) (x : D) (h : Hm) : Res D := match b with
  | .pop => popD x h
  | .clear => clearD x h
  | _ => .stuck
/-- d.get(y), d.get(y, z), d.setdefault(y, z) -/
def get1D (x y : D) (h : Hm) : Res D := match nodeD x h with
  | some (_, kvs) => if isKey y then .ok ((dget kvs y).getD .non) h else .stuck
  | none => .stuck
def get2D (x y z : D) (h : Hm) : Res D := match nodeD x h with
  | some (_, kvs) => if isKey y then .ok ((dget kvs y).getD z) h else .stuck
  | none => .stuck
def setdD (x y z : D) (h : Hm) : Res D := match nodeD x h with
  | some (n, kvs) => if isKey y && decide (kvs.length < big) then (match dget kvs y with
    | some v => .ok v h
    | none => .ok z (h.set n (.dic (dput kvs y z)))) else .stuck
  | none => .stuck
def bm2 (b : Bm) (x y z : D) (h : Hm) : Res D := match b with
  | .get => get2D x y z h
  | .setdefault => setdD x y z h
  | .insert => insertD x y z h
  | _ => .stuck
/-- d.update(e) -/
def updD (x y : D) (h : Hm) : Res D := match nodeD x h, nodeD y h with
  | some (n, kvs), some (m, more) => if decide (n ≠ m) && decide (kvs.length + more.length ≤ big) then .ok .non (h.set n (.dic (more.foldl (fun acc p => dput acc p.1 p.2) kvs))) else .stuck
  | _, _ => .stuck
/-- text.split(sep), sep.join(list) -/
def splitD (x y : D) (h : Hm) : Res D := match x, y with
  | .str a, .str b => if b.length ≠ 0 ∧ a.length + 2 ≤ big then newL false ((Txt.split a b).map .str) h else .stuck
  | _, _ => .stuck
def joinD (x y : D) (h : Hm) : Res D := match x with
  | .str a => match (getL h y).bind (allM toS) with
    | some ys => if (ys.map (·.length)).sum + ys.length * a.length ≤ big then .ok (.str (Txt.join a ys)) h else .stuck
    | none => .stuck
  | _ => .stuck
def isStrD : D → Bool
  | .str _ => true
  | _ => false
def bm1 (b : Bm) (x y : D) (h : Hm) : Res D := match b with
  | .append => appendD x y h
  | .split => splitD x y h
  | .join => joinD x y h
  | .update => updD x y h
  | .get => get1D x y h
  | .popAt => popAtD x y h
  | .index => indexD x y h
  | _ => .stuck
/-- the receiver is of the method's type -/
def Bm.typ : Bm → String
  | .append => "list" | .pop => "list" | .popAt => "list" | .insert => "list" | .clear => "list" | .index => "list"
  | .get => "dict" | .setdefault => "dict" | .update => "dict" | .split => "str" | .join => "str" | .replace => "str" | .isdigit => "str"
def recv (b : Bm) (x : D) (h : Hm) : Bool := match b with
  | .append => (getL h x).isSome
  | .pop => (getL h x).isSome
  | .popAt => (getL h x).isSome
  | .clear => (getL h x).isSome
  | .index => (getL h x).isSome
  | .insert => (getL h x).isSome
  | .get => (nodeD x h).isSome
  | .setdefault => (nodeD x h).isSome
  | .update => (nodeD x h).isSome
  | .split => isStrD x
  | .join => isStrD x
  | _ => false
def bmCall (b : Bm) (_mk : Bool) (x : D) (ys : List D) (h : Hm) : Res D :=
  match ys with
  | [] => bm0 b x h
  | [y] => bm1 b x y h
  | [y, z] => bm2 b x y z h
  | _ => .stuck

def ixDic (x i : D) (h : Hm) : Res D := match nodeD x h with
  | some (_, kvs) => if isKey i then (match dget kvs i with
    | some d => .ok d h
    | none => .stuck) else .stuck
  | none => .stuck
def ixD (x i : D) (h : Hm) : Res D :=
  match x, i with
  | .str z, .int i => if z.length ≤ big then (match atI z.cps.toList i with
    | some c => .ok (.str ⟨#[c]⟩) h
    | none => .stuck) else .stuck
  | x, .int i => match getS h x with
    | some xs => match atI xs i with
      | some d => .ok d h
      | none => .stuck
    | none => ixDic x (.int i) h
  | x, i => ixDic x i h
/-- xs[lo:hi] -/
def cutD {α : Type} (xs : List α) (lo hi : Option Int) : List α := (xs.drop (HT.sIx xs.length 0 lo)).take (HT.sIx xs.length xs.length hi - HT.sIx xs.length 0 lo)
def cutOp (mk : Bool) (x : D) (lo hi : Option Int) (h : Hm) : Res D :=
  match x with
  | .tup xs => .ok (.tup (cutD xs lo hi)) h
  | .str z => if z.length ≤ big then .ok (.str ⟨(cutD z.cps.toList lo hi).toArray⟩) h else .stuck
  | x => match getL h x with
    | some xs => newL mk (cutD xs lo hi) h
    | none => .stuck
def getF (fs : List (Nat × D)) (f : Nat) : Option D := fs.lookup f
def putF (f : Nat) (v : D) : List (Nat × D) → List (Nat × D)
  | [] => [(f, v)]
  | (g, x) :: r => if g = f then (g, v) :: r else (g, x) :: putF f v r
/-- an instance's class and attributes -/
def insD (x : D) (h : Hm) : Option (Nat × List (Nat × D)) :=
  match x with
  | .ins c fs => some (c, fs)
  | .ref n => match h[n]? with
    | some (.ins c fs) => some (c, fs)
    | _ => none
  | _ => none
def attrD (C : Calls) (x : D) (f : Nat) (h : Hm) : Res D :=
  match insD x h with
  | some (c, fs) => if C.fl c f then (match getF fs f with
    | some d => .ok d h
    | none => .stuck) else .stuck
  | none => .stuck
/-- the def that a method's call means -/
def methD (C : Calls) (x : D) (m : Nat) (h : Hm) : Option Nat :=
  match insD x h with
  | some (c, fs) => if (getF fs m).isNone then C.mt c m else none
  | none => none
/-- C(..) -/
def makeD (C : Calls) (c : Nat) (xs : List D) (h : Hm) : Res D :=
  match C.ini c with
  | some i => (C.fn i (.ref h.length :: xs) (h ++ [.ins c []])).bind fun v h' => match v with
    | .non => .ok (.ref h.length) h'
    | _ => .stuck
  | none => .stuck
def isaD (x : D) (t : Ty) (h : Hm) : Res D :=
  match x with
  | .non => .ok (.bl false) h
  | .bl _ => .ok (.bl (t matches .int | .bool)) h
  | .int _ => .ok (.bl (t matches .int)) h
  | .str _ => .ok (.bl (t matches .str)) h
  | .tup _ => .ok (.bl (t matches .tuple | .listTuple)) h
  | .lst _ => .ok (.bl (t matches .list | .listTuple)) h
  | .scr _ => .ok (.bl (t matches .list | .listTuple)) h
  | .ref n => match h[n]? with
    | some (.lst _) => .ok (.bl (t matches .list | .listTuple)) h
    | some (.dic _) => .ok (.bl false) h
    | _ => .stuck
  | .ins _ _ => .stuck

/-! ### freezing: k levels of nodes -/
mutual
def frzV (f : Nat → Hm → Option (D × Hm)) : D → Hm → Option (D × Hm)
  | .ref n, h => f n h
  | .tup xs, h => match frzVs f xs h with
    | some (ys, h) => some (.tup ys, h)
    | none => none
  | .lst xs, h => match frzVs f xs h with
    | some (ys, h) => some (.lst ys, h)
    | none => none
  | d, h => some (d, h)
def frzVs (f : Nat → Hm → Option (D × Hm)) : List D → Hm → Option (List D × Hm)
  | [], h => some ([], h)
  | x :: xs, h => match frzV f x h with
    | some (y, h) => match frzVs f xs h with
      | some (ys, h) => some (y :: ys, h)
      | none => none
    | none => none
end
def frzF (f : Nat → Hm → Option (D × Hm)) : List (Nat × D) → Hm → Option (List (Nat × D) × Hm)
  | [], h => some ([], h)
  | (i, x) :: xs, h => match frzV f x h with
    | some (y, h) => match frzF f xs h with
      | some (ys, h) => some ((i, y) :: ys, h)
      | none => none
    | none => none
def frzN : Nat → Nat → Hm → Option (D × Hm)
  | 0, _, _ => none
  | k + 1, n, h => match h[n]? with
    | some (.lst xs) => if isPs xs then some (.lst xs, h.set n .dead) else none
    | some (.ins c fs) => if isPF fs then some (.ins c fs, h.set n .dead) else none
    | _ => none
/-- one level: a node whose items are pure becomes a pure value; the node is dead from then on -/
def frzD (x : D) (h : Hm) : Res D :=
  match x with
  | .ref n => match h[n]? with
    | some (.lst xs) => if isPs xs then .ok (.lst xs) (h.set n .dead) else .stuck
    | some (.ins c fs) => if isPF fs then .ok (.ins c fs) (h.set n .dead) else .stuck
    | _ => .stuck
  | d => .ok d h

/-! ### targets, walks -/
def bindN : List Nat → List D → En → Option En
  | [], [], ρ => some ρ
  | i :: is, d :: ds, ρ => bindN is ds (ρ.set i (some d))
  | _, _, _ => none
def bindP : Pt → D → En → Option En
  | .one i, d, ρ => some (ρ.set i (some d))
  | .tup is, .tup ds, ρ => bindN is ds ρ
  | _, _, _ => none
def Pt.isOne : Pt → Bool
  | .one _ => true
  | .tup _ => false
def Pt.slots : Pt → List Nat
  | .one i => [i]
  | .tup is => is
/-- what is walked: the items, and the node that must stand as it is meanwhile -/
abbrev Walk := List D × Option (Nat × List D)
def guardOk (g : Option (Nat × List D)) (h : Hm) : Bool :=
  match g with
  | none => true
  | some (n, xs) => match h[n]? with
    | some (.lst ys) => decide (ys = xs)
    | _ => false
def walkOf (h : Hm) : D → Option Walk
  | .tup xs => some (xs, none)
  | .lst xs => some (xs, none)
  | .scr xs => some (xs, none)
  | .ref n => match h[n]? with
    | some (.lst xs) => some (xs, some (n, xs))
    | _ => none
  | _ => none
def small (i : Int) : Bool := decide (-(2 ^ 62) ≤ i ∧ i < 2 ^ 62)
def rangeD (lo : Int) (n : Nat) : List D := (List.range n).map fun (k : Nat) => D.int (lo + (k : Int))
def enumD : Nat → List D → List D
  | _, [] => []
  | i, x :: xs => .tup [.int i, x] :: enumD (i + 1) xs
def iterSeq (x : D) (h : Hm) : Res Walk := match walkOf h x with
  | some w => .ok w h
  | none => .stuck
def iterR1 (x : D) (h : Hm) : Res Walk := match x with
  | .int j => if small j then .ok (rangeD 0 j.toNat, none) h else .stuck
  | _ => .stuck
def iterR2 (x y : D) (h : Hm) : Res Walk := match x, y with
  | .int i, .int j => if small i ∧ small j then .ok (rangeD i (j - i).toNat, none) h else .stuck
  | _, _ => .stuck
def charsD (x : Str) : List D := x.cps.toList.map fun c => .str ⟨#[c]⟩
def iterChars (x : D) (h : Hm) : Res Walk := match x with
  | .str x => .ok (charsD x, none) h
  | _ => .stuck
def iterEnum (x : D) (h : Hm) : Res Walk := match walkOf h x with
  | some (xs, g) => .ok (enumD 0 xs, g) h
  | none => .stuck
def iterRev (x : D) (h : Hm) : Res Walk := match walkOf h x with
  | some (xs, g) => .ok (xs.reverse, g) h
  | none => .stuck
def zipD : List D → List D → List D
  | x :: xs, y :: ys => .tup [x, y] :: zipD xs ys
  | _, _ => []
def iterZip (x y : D) (h : Hm) : Res Walk := match x, y with
  | .tup xs, .tup ys => .ok (zipD xs ys, none) h
  | .lst xs, .lst ys => .ok (zipD xs ys, none) h
  | .tup xs, .lst ys => .ok (zipD xs ys, none) h
  | _, _ => .stuck
/-- a loop's turns -/
def loopF (g : Option (Nat × List D)) (body : D → En → Hm → SRes) : List D → En → Hm → SRes
  | [], ρ, h => if guardOk g h then .ok .next ρ h else .stuck
  | x :: xs, ρ, h => if guardOk g h then (match body x ρ h with
    | .ok .next ρ h => loopF g body xs ρ h
    | .ok .cont ρ h => loopF g body xs ρ h
    | .ok .brk ρ h => .ok .next ρ h
    | r => r) else .stuck
/-- a dict's walk by its keys: the node is shut meanwhile -/
def openD (n : Nat) (nd : Node) (r : SRes) : SRes := match r with
  | .ok .next ρ h => if h[n]? = some .dead then .ok .next ρ (h.set n nd) else .stuck
  | _ => .stuck
def forDD (ρ : En) (i : Nat) (body : D → En → Hm → SRes) (h : Hm) : SRes := match ρ[i]? with
  | some (some (.ref n)) => match h[n]? with
    | some (.dit kvs) => openD n (.dit kvs) (loopF none body (kvs.map (·.1)) ρ (h.set n .dead))
    | _ => .stuck
  | _ => .stuck
def loopW (test : En → Hm → Res Bool) (body : En → Hm → SRes) : Nat → En → Hm → SRes
  | 0, _, _ => .stuck
  | n + 1, ρ, h => match test ρ h with
    | .ok true h => (match body ρ h with
      | .ok .next ρ h => loopW test body n ρ h
      | .ok .cont ρ h => loopW test body n ρ h
      | .ok .brk ρ h => .ok .next ρ h
      | r => r)
    | .ok false h => .ok .next ρ h
    | .exc c fs h => .exc c fs ρ h
    | .stuck => .stuck
/-- a comprehension's turns: what is made -/
def loopC (g : Option (Nat × List D)) (p : Pt) (cond : En → Hm → Res Bool) (elt : En → Hm → Res D) (ρ : En) : List D → Hm → Res (List D)
  | [], h => if guardOk g h then .ok [] h else .stuck
  | x :: xs, h => if guardOk g h then (match bindP p x ρ with
    | some ρ2 => (cond ρ2 h).bind fun b h => if b then (elt ρ2 h).bind fun y h => (loopC g p cond elt ρ xs h).bind fun ys h => .ok (y :: ys) h
        else loopC g p cond elt ρ xs h
    | none => .stuck) else .stuck
def wipe (ρ : En) : List Nat → En
  | [] => ρ
  | v :: vs => (wipe ρ vs).set v none
def quietR {α : Type} : Res α → Res α
  | .exc _ _ _ => .stuck
  | r => r
def partI : D → Option (Option Int)
  | .int i => some (some i)
  | _ => none

def asB (x : D) (h : Hm) : Res Bool := match x with
  | .bl b => .ok b h
  | _ => .stuck
def asO (x : D) (h : Hm) : Res (Option Int) := match x with
  | .int i => .ok (some i) h
  | _ => .stuck
/-- a display's dict is written -/
def pairUp : List D → List (D × D)
  | x :: y :: r => (x, y) :: pairUp r
  | _ => []
def dispD (n : Nat) (xs : List D) (h : Hm) : Res D := match h[n]? with
  | some (.dic []) => let kvs := pairUp xs
    if kvs.all (fun p => isKey p.1) && decide (kvs.length ≤ 15) then .ok (.ref n) (h.set n (.dic (kvs.foldl (fun acc p => dput acc p.1 p.2) []))) else .stuck
  | _ => .stuck
/-- {k: v} -/
def dit1D (n : Nat) (x y : D) (h : Hm) : Res D := match h[n]? with
  | some (.dit []) => if isTK x then .ok (.ref n) (h.set n (.dit [(x, y)])) else .stuck
  | _ => .stuck
/-- sorted(d) -/
def sditD (mk : Bool) (x : D) (h : Hm) : Res D := match x with
  | .ref n => match h[n]? with
    | some (.dit kvs) => if sortOk (kvs.map (·.1)) = true then newL mk (sortT (kvs.map (·.1))) h else .stuck
    | _ => .stuck
  | _ => .stuck
def lrngD (mk : Bool) (x : D) (h : Hm) : Res D := match x with
  | .int j => if decide (-(2 ^ 62) ≤ j ∧ j ≤ 2 ^ 24) then newL mk (rangeD 0 j.toNat) h else .stuck
  | _ => .stuck
def lzipD (mk : Bool) (x y : D) (h : Hm) : Res D := match getL h x, getL h y with
  | some xs, some ys => newL mk (zipD xs ys) h
  | _, _ => .stuck
def tupRevD (x : D) (h : Hm) : Res D := match getL h x with
  | some xs => .ok (.tup xs.reverse) h
  | none => .stuck
/-- each second item, the first one too -/
def twoL {α : Type} : List α → List α
  | x :: _ :: r => x :: twoL r
  | [x] => [x]
  | [] => []
def twoD (x : D) (h : Hm) : Res D := match x with
  | .tup xs => .ok (.tup (twoL xs)) h
  | _ => .stuck
def lsetD (x : D) (h : Hm) : Res D := match intsD x h with
  | some is => if decide is.Nodup && decide (is.length ≤ 4000) then .ok (.int (is.length : Nat)) h else .stuck
  | none => .stuck
def negD (x : D) (h : Hm) : Res D := match x with
  | .int i => .ok (.int (-i)) h
  | _ => .stuck
def invD (x : D) (h : Hm) : Res D := match x with
  | .int i => .ok (.int (Builtin.bitNot i)) h
  | _ => .stuck
def notD (x : D) (h : Hm) : Res D := match x with
  | .bl b => .ok (.bl (!b)) h
  | _ => .stuck
/-- a way for each truth -/
def ifD {α : Type} (x : D) (a b : Res α) : Res α := match x with
  | .bl true => a
  | .bl false => b
  | _ => .stuck
def tupD (xs : List D) (h : Hm) : Res D := if xs.length ≤ big then .ok (.tup xs) h else .stuck
def varD (ρ : En) (i : Nat) (h : Hm) : Res D := match ρ[i]? with
  | some (some d) => .ok d h
  | _ => .stuck

/-! ### the interpreter. cur: the exception that is handled -/
abbrev Cur := Option (Nat × List (Nat × D))
mutual
def evE (C : Calls) (cur : Cur) : E → En → Hm → Res D
  | .no, _, _ => .stuck
  | .var i, ρ, h => varD ρ i h
  | .con c, _, h => .ok c.d h
  | .glob _ i, _, h => .ok (.int i) h
  | .globT _ x, _, h => .ok (.str x) h
  | .bin op mk a b, ρ, h => (evE C cur a ρ h).bind fun x h => (evE C cur b ρ h).bind fun y h => opB op mk x y h
  | .neg a, ρ, h => (evE C cur a ρ h).bind negD
  | .inv a, ρ, h => (evE C cur a ρ h).bind invD
  | .cmp op a b, ρ, h => (evE C cur a ρ h).bind fun x h => (evE C cur b ρ h).bind fun y h => opC op x y h
  | .chain o1 o2 a b c, ρ, h => (evE C cur a ρ h).bind fun x h => (evE C cur b ρ h).bind fun y h => (opC o1 x y h).bind fun z h =>
      ifD z ((evE C cur c ρ h).bind fun w h => opC o2 y w h) (.ok (.bl false) h)
  | .bool and es, ρ, h => evB C cur and es ρ h
  | .not a, ρ, h => (evE C cur a ρ h).bind notD
  | .ife c a b, ρ, h => (evE C cur c ρ h).bind fun x h => ifD x (evE C cur a ρ h) (evE C cur b ρ h)
  | .tup es, ρ, h => (evEs C cur es ρ h).bind tupD
  | .lst mk es, ρ, h => (evEs C cur es ρ h).bind fun xs h => newL mk xs h
  | .dic, _, h => .ok (.ref h.length) (h ++ [.dic []])
  | .disp es, ρ, h => (evEs C cur es ρ (h ++ [.dic []])).bind fun xs h' => dispD h.length xs h'
  | .ditn, _, h => .ok (.ref h.length) (h ++ [.dit []])
  | .dit1 k v, ρ, h => (evE C cur k ρ (h ++ [.dit []])).bind fun x h' => (evE C cur v ρ h').bind fun y h' => dit1D h.length x y h'
  | .sdit mk a, ρ, h => if cur.isSome then .stuck else (evE C cur a ρ h).bind fun x h => sditD mk x h
  | .lrng mk a, ρ, h => if cur.isSome then .stuck else (evE C cur a ρ h).bind fun x h => lrngD mk x h
  | .lset a, ρ, h => if cur.isSome then .stuck else (evE C cur a ρ h).bind fun x h => lsetD x h
  | .lzip mk a b, ρ, h => if cur.isSome then .stuck else (evE C cur a ρ h).bind fun x h => (evE C cur b ρ h).bind fun y h => lzipD mk x y h
  | .two a, ρ, h => (evE C cur a ρ h).bind fun x h => twoD x h
  | .tupRev a, ρ, h => if cur.isSome then .stuck else (evE C cur a ρ h).bind fun x h => tupRevD x h
  | .idx a i, ρ, h => (evE C cur a ρ h).bind fun x h => (evE C cur i ρ h).bind fun y h => ixD x y h
  | .cut mk a lo hi, ρ, h => (evE C cur a ρ h).bind fun x h => (evO C cur lo ρ h).bind fun l h => (evO C cur hi ρ h).bind fun u h => cutOp mk x l u h
  | .attr a f, ρ, h => (evE C cur a ρ h).bind fun x h => attrD C x f h
  | .call i es ds, ρ, h => if cur.isSome then .stuck else (evEs C cur es ρ h).bind fun xs h => if C.df i ds then C.fn i (xs ++ ds.map Cst.d) h else .stuck
  | .make c es ds, ρ, h => if cur.isSome then .stuck else (evEs C cur es ρ h).bind fun xs h => match C.ini c with
    | some i => if C.df i ds then makeD C c (xs ++ ds.map Cst.d) h else .stuck
    | none => .stuck
  | .meth a m es, ρ, h => if cur.isSome then .stuck else (evE C cur a ρ h).bind fun x h => match methD C x m h with
    | some i => (evEs C cur es ρ h).bind fun xs h => C.fn i (x :: xs) h
    | none => .stuck
  | .bi b mk es, ρ, h => if cur.isSome && !b.hot then .stuck else (evEs C cur es ρ h).bind fun xs h => biCall b mk xs h
  | .bm b mk a es, ρ, h => (evE C cur a ρ h).bind fun x h => if recv b x h then (evEs C cur es ρ h).bind fun xs h => bmCall b mk x xs h else .stuck
  | .isa a t, ρ, h => (evE C cur a ρ h).bind fun x h => isaD x t h
  | .comp mk elt p it cond own, ρ, h => if cur.isSome then .stuck else (evI C cur it ρ h).bind fun w h => if w.1.length ≤ big then
      (quietR (loopC w.2 p (fun ρ h => evT C cur cond ρ h) (fun ρ h => evE C cur elt ρ h) (wipe ρ own) w.1 h)).bind fun ys h => newL mk ys h
    else .stuck
  | .compX mk elt p it cond own, ρ, h => if cur.isSome then .stuck else (evI C cur it ρ h).bind fun w h => if w.1.length ≤ big then
      (loopC w.2 p (fun ρ h => evT C cur cond ρ h) (fun ρ h => evE C cur elt ρ h) (wipe ρ own) w.1 h).bind fun ys h => newL mk ys h
    else .stuck
  | .frz a, ρ, h => (evE C cur a ρ h).bind fun x h => frzD x h
  | .exIs c, _, h => match cur with
    | some (d, _) => .ok (.bl (C.sub d c)) h
    | _ => .stuck
  | .sset mk a, ρ, h => if cur.isSome then .stuck else (evE C cur a ρ h).bind fun x h => sortedSetD mk x h
  | .exVE, _, h => match cur with
    | some (_, _) => .ok (.bl true) h
    | _ => .stuck
  | .exFld f, _, h => match cur with
    | some (c, fs) => if (C.xf c).contains f then (match getF fs f with
      | some d => .ok d h
      | none => .stuck) else .stuck
    | none => .stuck
/-- a test of a comprehension (none: yes) -/
def evT (C : Calls) (cur : Cur) : Option E → En → Hm → Res Bool
  | none, _, h => .ok true h
  | some e, ρ, h => (evE C cur e ρ h).bind asB
def evO (C : Calls) (cur : Cur) : Option E → En → Hm → Res (Option Int)
  | none, _, h => .ok none h
  | some e, ρ, h => (evE C cur e ρ h).bind asO
def evEs (C : Calls) (cur : Cur) : List E → En → Hm → Res (List D)
  | [], _, h => .ok [] h
  | e :: es, ρ, h => (evE C cur e ρ h).bind fun x h => (evEs C cur es ρ h).bind fun xs h => .ok (x :: xs) h
/-- and, or -/
def evB (C : Calls) (cur : Cur) (and : Bool) : List E → En → Hm → Res D
  | [], _, _ => .stuck
  | [e], ρ, h => evE C cur e ρ h
  | e :: es, ρ, h => (evE C cur e ρ h).bind fun x h => ifD x (if and then evB C cur and es ρ h else .ok (.bl true) h) (if and then .ok (.bl false) h else evB C cur and es ρ h)
def evI (C : Calls) (cur : Cur) : It → En → Hm → Res Walk
  | .seq e, ρ, h => (evE C cur e ρ h).bind iterSeq
  | .range1 a, ρ, h => (evE C cur a ρ h).bind iterR1
  | .range2 a b, ρ, h => (evE C cur a ρ h).bind fun x h => (evE C cur b ρ h).bind fun y h => iterR2 x y h
  | .enum e, ρ, h => (evE C cur e ρ h).bind iterEnum
  | .chars e, ρ, h => (evE C cur e ρ h).bind iterChars
  | .zip a b, ρ, h => (evE C cur a ρ h).bind fun x h => (evE C cur b ρ h).bind fun y h => iterZip x y h
  | .rev e, ρ, h => (evE C cur e ρ h).bind iterRev
end
/-- an expression's value in a statement -/
def onE {α : Type} (ρ : En) (r : Res α) (k : α → Hm → SRes) : SRes :=
  match r with
  | .ok a h => k a h
  | .exc c fs h => .exc c fs ρ h
  | .stuck => .stuck
def setAD (C : Calls) (x : D) (f : Nat) (v : D) (ρ : En) (h : Hm) : SRes := match x with
  | .ref n => match h[n]? with
    | some (.ins c fs) => if C.fl c f && decide (fs.length < 1000) then .ok .next ρ (h.set n (.ins c (putF f v fs))) else .stuck
    | _ => .stuck
  | _ => .stuck
def setID (x y v : D) (ρ : En) (h : Hm) : SRes := match x with
  | .ref n => match h[n]?, y with
    | some (.lst xs), .int k => match ixN xs.length k with
      | some j => .ok .next ρ (h.set n (.lst (xs.set j v)))
      | none => .stuck
    | some (.dic kvs), y => if isKey y && decide (kvs.length < big) then .ok .next ρ (h.set n (.dic (dput kvs y v))) else .stuck
    | some (.dit kvs), y => if isTK y && decide (kvs.length < big) then .ok .next ρ (h.set n (.dit (dput kvs y v))) else .stuck
    | _, _ => .stuck
  | _ => .stuck
def augI (op : Bop) (x y : D) : Option Int := match op, x, y with
  | .add, .int x, .int y => some (x + y)
  | .sub, .int x, .int y => some (x - y)
  | _, _, _ => none
def augD (i : Nat) (op : Bop) (r : Res D) (ρ : En) : SRes := match ρ[i]? with
  | some (some x) => onE ρ r fun y h => match augI op x y with
    | some z => .ok .next (ρ.set i (some (.int z))) h
    | none => .stuck
  | _ => .stuck
def setP (cur : Cur) (p : Pt) (x : D) (ρ : En) (h : Hm) : SRes := match bindP p x ρ with
  | some ρ => if cur.isSome && !p.isOne then .stuck else .ok .next ρ h
  | none => .stuck
def raiseD (C : Calls) (c : Nat) (xs : List D) (ρ : En) (h : Hm) : SRes := match C.xf c with
  | [] => if C.xok c then .exc c [] ρ h else .stuck
  | fs => if fs.length = xs.length then .exc c (fs.zip xs) ρ h else .stuck
def offS (slot : Option Nat) (r : SRes) : SRes := match r with
  | .ok f ρ h => .ok f (match slot with
    | some i => ρ.set i none
    | none => ρ) h
  | _ => .stuck
/-- one except clause -/
def catchS (C : Calls) (c : Nat) (_fs : List (Nat × D)) (cs : List Nat) (slot : Option Nat) (suite rest : En → Hm → SRes) (ρ : En) (h : Hm) : SRes :=
  if C.xok c && cs.all C.xok then (if cs.any fun d => C.sub c d then (match slot with
    | some i => if i < ρ.length then offS slot (suite (ρ.set i none) h) else .stuck
    | none => offS slot (suite ρ h)) else rest ρ h) else .stuck
def quietS (r : SRes) : SRes := match r with
  | .exc _ _ _ _ => .stuck
  | r => r
def tryS (r : SRes) (hd : Nat → List (Nat × D) → En → Hm → SRes) : SRes := match r with
  | .exc c fs ρ h => hd c fs ρ h
  | r => r
mutual
def exS (C : Calls) (cur : Cur) : S → En → Hm → SRes
  | .set p e, ρ, h => onE ρ (evE C cur e ρ h) fun x h => setP cur p x ρ h
  | .no, _, _ => .stuck
  | .setA o f e, ρ, h => onE ρ (evE C cur e ρ h) fun v h => onE ρ (evE C cur o ρ h) fun x h => setAD C x f v ρ h
  | .setI o i e, ρ, h => onE ρ (evE C cur e ρ h) fun v h => onE ρ (evE C cur o ρ h) fun x h => onE ρ (evE C cur i ρ h) fun y h => setID x y v ρ h
  | .aug i op e, ρ, h => augD i op (evE C cur e ρ h) ρ
  | .expr e, ρ, h => onE ρ (evE C cur e ρ h) fun _ h => .ok .next ρ h
  | .ret e, ρ, h => onE ρ (evE C cur e ρ h) fun x h => .ok (.ret x) ρ h
  | .retN, ρ, h => .ok (.ret .non) ρ h
  | .ite c a b, ρ, h => onE ρ ((evE C cur c ρ h).bind asB) fun x h => if x then exB C cur a ρ h else exB C cur b ρ h
  | .whil c b, ρ, h => if cur.isSome then .stuck else loopW (fun ρ h => (evE C cur c ρ h).bind asB) (fun ρ h => exB C cur b ρ h) C.fuel ρ h
  | .forr p it b, ρ, h => if cur.isSome then .stuck else onE ρ (evI C cur it ρ h) fun w h => loopF w.2 (fun x ρ h => match bindP p x ρ with
      | some ρ => exB C cur b ρ h
      | none => .stuck) w.1 ρ h
  | .forD p i b, ρ, h => if cur.isSome then .stuck else forDD ρ i (fun x ρ h => match bindP p x ρ with
      | some ρ => exB C cur b ρ h
      | none => .stuck) h
  | .raise c es, ρ, h => if cur.isSome then .stuck else onE ρ (evEs C cur es ρ h) fun xs h => raiseD C c xs ρ h
  | .tryN b, ρ, h => if cur.isSome then .stuck else quietS (exB C cur b ρ h)
  | .try_ b hs, ρ, h => if cur.isSome then .stuck else tryS (exB C cur b ρ h) fun c fs ρ h => exH C c fs hs ρ h
  | .pass, ρ, h => .ok .next ρ h
  | .brk, ρ, h => .ok .brk ρ h
  | .cont, ρ, h => .ok .cont ρ h
def exB (C : Calls) (cur : Cur) : List S → En → Hm → SRes
  | [], ρ, h => .ok .next ρ h
  | s :: r, ρ, h => match exS C cur s ρ h with
    | .ok .next ρ h => exB C cur r ρ h
    | x => x
/-- the except clauses -/
def exH (C : Calls) (c : Nat) (fs : List (Nat × D)) : List Hd → En → Hm → SRes
  | [], ρ, h => .exc c fs ρ h
  | .mk cs slot suite :: r, ρ, h => catchS C c fs cs slot (exB C (some (c, fs)) suite) (exH C c fs r) ρ h
end

/-! ### a def's call -/
structure Fn where
  many : Nat          -- parameters
  slots : Nat         -- all local names
  body : List S
/-- behind a call all that it made is dropped, where nothing else means it -/
def gcD (h0 : Hm) (r : Res D) : Res D :=
  match r with
  | .ok d h => if isP d = true ∧ (h.take h0.length = h0 ∨ (h.take h0.length).all (belowN h0.length) = true) then .ok d (h.take h0.length) else .ok d h
  | .exc c fs h => if isPF fs = true ∧ (h.take h0.length = h0 ∨ (h.take h0.length).all (belowN h0.length) = true) then .exc c fs (h.take h0.length) else .exc c fs h
  | .stuck => .stuck
def endR : SRes → Res D
  | .ok (.ret d) _ h => .ok d h
  | .ok .next _ h => .ok .non h
  | .exc c fs _ h => .exc c fs h
  | _ => .stuck
def runF (C : Calls) (f : Fn) (xs : List D) (h : Hm) : Res D :=
  if xs.length = f.many then gcD h (endR (exB C none f.body (xs.map some ++ List.replicate (f.slots - f.many) none) h)) else .stuck
end L2.Mini
set_option Elab.async false
set_option linter.all false
set_option maxRecDepth 100000
/-! Mini, part 3: how values and the small heap lie in the abstract heap of the hand layer. -/
namespace L2.Mini
open PySem L2

/-- what is fixed for a law: the classes' addresses, the attributes' names -/
structure Gx where
  ca : Nat → Addr
  nm : Nat → Str
  inj : ∀ f g, nm f = nm g → f = g
  /-- where a def stands, its name in the module, a class's name -/
  fa : Nat → Addr
  gn : Nat → Str
  cn : Nat → Str
  /-- a list of the module's own may be the script -/
  K : PySem.W.Frag
  /-- the world: how texts hash -/
  w : World
  kl : Addr → List V → Prop
  klk : ∀ p us, kl p us → ∃ (o : Obj) (its : Array Value) (n : Nat), K.lookup p = some o ∧ o.cls = .type "list" ∧ o.dict = none ∧ o.data = .seq its n ∧ its.size ≤ sizeLine ∧ Vals us its.toList
  /-- in an except suite: the name's slot, the exception -/
  exs : Option ((Nat × V) × (List (Nat × D) × Option Addr))
class KEq (G : Gx) (K : PySem.W.Frag) : Prop where
  eq : G.K = K
class WEq (G : Gx) (w : World) : Prop where
  eq : G.w = w
/-- at d stands a dict with these entries -/
def DFx (w : World) (d : Addr) (us : List (NestedKey × Addr × Value)) : Heap → Prop := fun h => (d == sysModules) = false ∧ ∃ o es ep, h.get? d = some o ∧ o.ExactDict ∧ o.data = .dict es ep ∧ es.toList = us.map fun x => (⟨x.1.hash w, .ref x.2.1, x.2.2⟩ : DictEntry)
theorem Gx.sq {G : Gx} {K : PySem.W.Frag} [ke : KEq G K] {H : Hp} {p : Addr} {us : List V} (h : G.kl p us) : SqL K H p us := .inr (by rw [← ke.eq]; exact G.klk p us h)

abbrev AM := Nat → Option Addr
/-- a state: where the nodes stand, the nodes, the abstract heap -/
structure Sx where
  am : AM
  h : Hm
  H : Hp
  /-- what is written by someone else (a comprehension's new list) -/
  ex : Addr → Prop
def Sx.L (s : Sx) (p : Addr) : Prop := s.ex p ∨ ∃ n nd, s.am n = some p ∧ s.h[n]? = some nd ∧ nd ≠ .dead

section
variable (G : Gx) (α : AM) (L : Addr → Prop) (H : Hp)
mutual
def RV : D → V → Prop
  | .non, v => v = .non
  | .bl b, v => v = .bl b
  | .int i, v => v = .int i
  | .str x, v => v = .str x
  | .tup xs, v => ∃ p us, v = .ref p ∧ Rd H p (.tup us) ∧ ¬ L p ∧ RVs xs us
  | .lst xs, v => ∃ p us, v = .ref p ∧ Rd H p (.lst us) ∧ ¬ L p ∧ RVs xs us
  | .scr xs, v => ∃ p us, v = .ref p ∧ ((Rd H p (.lst us) ∧ ¬ L p) ∨ G.kl p us) ∧ RVs xs us
  | .ref n, v => ∃ p, v = .ref p ∧ α n = some p
  | .ins c fs, v => ∃ p dx us, v = .ref p ∧ H p = some (.ins (G.ca c) dx us) ∧ ¬ L p ∧ RFs fs us
def RVs : List D → List V → Prop
  | [], us => us = []
  | x :: xs, us => ∃ u r, us = u :: r ∧ RV x u ∧ RVs xs r
def RFs : List (Nat × D) → List (Str × V) → Prop
  | [], us => us = []
  | (f, x) :: xs, us => ∃ u r, us = (G.nm f, u) :: r ∧ RV x u ∧ RFs xs r
end
def keyK : D → Option Key
  | .int i => some (.inl i)
  | .str x => some (.inr x)
  | _ => none
def RKs : List (D × D) → List (Key × V) → Prop
  | [], us => us = []
  | (k, x) :: xs, us => ∃ kk u r, us = (kk, u) :: r ∧ keyK k = some kk ∧ RV G α L H x u ∧ RKs xs r
def RTs : List (D × D) → List (NestedKey × Addr × Value) → Prop
  | [], us => us = []
  | (k, x) :: xs, us => ∃ nk p u r, us = (nk, p, u) :: r ∧ nkD k = some nk ∧ nk.depth ≤ 8 ∧ RV G α L H k (.ref p) ∧ (∃ v, RV G α L H x v ∧ RelV v u) ∧ RTs xs r
def NR : Node → Addr → Prop
  | .lst xs, p => ∃ us, H p = some (.lst us) ∧ RVs G α L H xs us
  | .ins c fs, p => ∃ dx us, H p = some (.ins (G.ca c) dx us) ∧ RFs G α L H fs us
  | .dic kvs, p => ∃ us, H p = some (.dK us) ∧ RKs G α L H kvs us
  | .dead, _ => True
  | .dit kvs, p => ∃ us, H p = some (.ext (DFx G.w p us)) ∧ RTs G α L H kvs us ∧ (us.map (·.1)).Nodup ∧ kvs.length ≤ big
end
abbrev Sx.RV (s : Sx) (G : Gx) : D → V → Prop := Mini.RV G s.am s.L s.H
abbrev Sx.RVs (s : Sx) (G : Gx) : List D → List V → Prop := Mini.RVs G s.am s.L s.H
abbrev Sx.RKs (s : Sx) (G : Gx) : List (D × D) → List (Key × V) → Prop := Mini.RKs G s.am s.L s.H
abbrev Sx.RTs (s : Sx) (G : Gx) : List (D × D) → List (NestedKey × Addr × Value) → Prop := Mini.RTs G s.am s.L s.H
abbrev Sx.RFs (s : Sx) (G : Gx) : List (Nat × D) → List (Str × V) → Prop := Mini.RFs G s.am s.L s.H

structure REL (G : Gx) (s : Sx) : Prop where
  dom : ∀ n, n < s.h.length → ∃ p, s.am n = some p
  cod : ∀ n p, s.am n = some p → n < s.h.length
  inj : ∀ n m p, s.am n = some p → s.am m = some p → n = m
  node : ∀ n nd p, s.h[n]? = some nd → s.am n = some p → NR G s.am s.L s.H nd p
  there : ∀ n p, s.am n = some p → ∃ o, s.H p = some o
  exT : ∀ p, s.ex p → ∃ o, s.H p = some o
  exN : ∀ n p, s.am n = some p → ¬ s.ex p

/-- from state to state: nodes stay where they are, what is no live node stays as it is -/
structure TZ (s s' : Sx) : Prop where
  al : ∀ n p, s.am n = some p → s'.am n = some p
  keep : ∀ p o, s.H p = some o → ¬ s.L p → s'.H p = some o ∧ ¬ s'.L p
/-- .. and what someone else writes is left alone -/
structure TR (s s' : Sx) : Prop where
  al : ∀ n p, s.am n = some p → s'.am n = some p
  keep : ∀ p o, s.H p = some o → ¬ s.L p → s'.H p = some o ∧ ¬ s'.L p
  exk : ∀ p, s.ex p → s'.ex p ∧ s'.H p = s.H p
theorem TR.z {s s' : Sx} (t : TR s s') : TZ s s' := ⟨t.al, t.keep⟩
theorem TR.refl (s : Sx) : TR s s := ⟨fun _ _ h => h, fun _ _ h k => ⟨h, k⟩, fun _ h => ⟨h, rfl⟩⟩
theorem TR.trans {a b c : Sx} (x : TR a b) (y : TR b c) : TR a c :=
  ⟨fun n p h => y.al n p (x.al n p h), fun p o h k => let ⟨h1, k1⟩ := x.keep p o h k; y.keep p o h1 k1, fun p h => let ⟨h1, e1⟩ := x.exk p h; let ⟨h2, e2⟩ := y.exk p h1; ⟨h2, e2.trans e1⟩⟩
theorem TZ.trans {a b c : Sx} (x : TZ a b) (y : TZ b c) : TZ a c :=
  ⟨fun n p h => y.al n p (x.al n p h), fun p o h k => let ⟨h1, k1⟩ := x.keep p o h k; y.keep p o h1 k1⟩

section
variable {G : Gx} {s s' : Sx}
theorem TZ.rd (t : TZ s s') {p : Addr} {u : HO} (h : Rd s.H p u) (k : ¬ s.L p) : Rd s'.H p u ∧ ¬ s'.L p := by
  rcases h with h | ⟨o, h⟩
  · obtain ⟨a, b⟩ := t.keep p _ h k
    exact ⟨.inl a, b⟩
  · obtain ⟨a, b⟩ := t.keep p _ h k
    exact ⟨.inr ⟨o, a⟩, b⟩
mutual
theorem RV.monoZ (t : TZ s s') : ∀ {d : D} {v : V}, s.RV G d v → s'.RV G d v
  | .non, _, h => h
  | .bl _, _, h => h
  | .int _, _, h => h
  | .str _, _, h => h
  | .tup xs, v, ⟨p, us, e, r, k, q⟩ => let ⟨r', k'⟩ := t.rd r k; ⟨p, us, e, r', k', RVs.monoZ t q⟩
  | .lst xs, v, ⟨p, us, e, r, k, q⟩ => let ⟨r', k'⟩ := t.rd r k; ⟨p, us, e, r', k', RVs.monoZ t q⟩
  | .scr xs, v, ⟨p, us, e, r, q⟩ => ⟨p, us, e, r.imp (fun ⟨r, k⟩ => t.rd r k) id, RVs.monoZ t q⟩
  | .ref n, v, ⟨p, e, a⟩ => ⟨p, e, t.al n p a⟩
  | .ins c fs, v, ⟨p, dx, us, e, r, k, q⟩ => let ⟨r', k'⟩ := t.keep p _ r k; ⟨p, dx, us, e, r', k', RFs.monoZ t q⟩
theorem RVs.monoZ (t : TZ s s') : ∀ {d : List D} {v : List V}, s.RVs G d v → s'.RVs G d v
  | [], _, h => h
  | _ :: _, _, ⟨u, r, e, a, b⟩ => ⟨u, r, e, RV.monoZ t a, RVs.monoZ t b⟩
theorem RFs.monoZ (t : TZ s s') : ∀ {d : List (Nat × D)} {v : List (Str × V)}, s.RFs G d v → s'.RFs G d v
  | [], _, h => h
  | (_, _) :: _, _, ⟨u, r, e, a, b⟩ => ⟨u, r, e, RV.monoZ t a, RFs.monoZ t b⟩
end

theorem RKs.monoZ (t : TZ s s') : ∀ {d : List (D × D)} {v : List (Key × V)}, s.RKs G d v → s'.RKs G d v
  | [], _, h => h
  | (_, _) :: _, _, ⟨kk, u, r, e, k, a, b⟩ => ⟨kk, u, r, e, k, RV.monoZ t a, RKs.monoZ t b⟩
theorem RTs.monoZ (t : TZ s s') : ∀ {d : List (D × D)} {v : List (NestedKey × Addr × Value)}, s.RTs G d v → s'.RTs G d v
  | [], _, h => h
  | (_, _) :: _, _, ⟨nk, p, u, r, e, k, kd, a, ⟨v, b1, b2⟩, c⟩ => ⟨nk, p, u, r, e, k, kd, RV.monoZ t a, ⟨v, RV.monoZ t b1, b2⟩, RTs.monoZ t c⟩
theorem TR.rd (t : TR s s') {p : Addr} {u : HO} (h : Rd s.H p u) (k : ¬ s.L p) : Rd s'.H p u ∧ ¬ s'.L p := t.z.rd h k
theorem RV.mono (t : TR s s') {d : D} {v : V} (h : s.RV G d v) : s'.RV G d v := RV.monoZ t.z h
theorem RVs.mono (t : TR s s') {d : List D} {v : List V} (h : s.RVs G d v) : s'.RVs G d v := RVs.monoZ t.z h
theorem RKs.mono (t : TR s s') {d : List (D × D)} {v : List (Key × V)} (h : s.RKs G d v) : s'.RKs G d v := RKs.monoZ t.z h
theorem RTs.mono (t : TR s s') {d : List (D × D)} {v : List (NestedKey × Addr × Value)} (h : s.RTs G d v) : s'.RTs G d v := RTs.monoZ t.z h
theorem RFs.mono (t : TR s s') {d : List (Nat × D)} {v : List (Str × V)} (h : s.RFs G d v) : s'.RFs G d v := RFs.monoZ t.z h

/-! ### lists of related values -/
theorem RVs.length : ∀ {xs : List D} {us : List V}, s.RVs G xs us → xs.length = us.length
  | [], _, h => by cases h; rfl
  | _ :: _, _, ⟨u, r, e, _, b⟩ => by subst e; simp [RVs.length b]
theorem RVs.get : ∀ {xs : List D} {us : List V} {i : Nat} {x : D}, s.RVs G xs us → xs[i]? = some x → ∃ u, us[i]? = some u ∧ s.RV G x u
  | [], _, _, _, _, e => by simp at e
  | _ :: _, _, 0, _, ⟨u, r, e, a, _⟩, q => by subst e; simp at q; subst q; exact ⟨u, rfl, a⟩
  | _ :: _, _, i + 1, _, ⟨u, r, e, _, b⟩, q => by
    subst e
    obtain ⟨w, h1, h2⟩ := RVs.get (i := i) b (by simpa using q)
    exact ⟨w, by simpa using h1, h2⟩
theorem RVs.append : ∀ {xs ys : List D} {us ws : List V}, s.RVs G xs us → s.RVs G ys ws → s.RVs G (xs ++ ys) (us ++ ws)
  | [], _, _, _, h, k => by cases h; exact k
  | _ :: _, _, _, _, ⟨u, r, e, a, b⟩, k => by subst e; exact ⟨u, _, rfl, a, RVs.append b k⟩
theorem RVs.set {x : D} {u : V} (r : s.RV G x u) : ∀ {xs : List D} {us : List V} (i : Nat), s.RVs G xs us → s.RVs G (xs.set i x) (us.set i u)
  | [], _, _, h => by cases h; rfl
  | _ :: _, _, 0, ⟨w, r', e, a, b⟩ => by subst e; exact ⟨u, _, rfl, r, b⟩
  | _ :: _, _, i + 1, ⟨w, r', e, a, b⟩ => by subst e; exact ⟨w, _, rfl, a, RVs.set r i b⟩
theorem RVs.take : ∀ {xs : List D} {us : List V} (n : Nat), s.RVs G xs us → s.RVs G (xs.take n) (us.take n)
  | _, _, 0, _ => by simp; rfl
  | [], _, _ + 1, h => by cases h; rfl
  | _ :: _, _, n + 1, ⟨u, r, e, a, b⟩ => by subst e; exact ⟨u, _, rfl, a, RVs.take n b⟩
theorem RVs.drop : ∀ {xs : List D} {us : List V} (n : Nat), s.RVs G xs us → s.RVs G (xs.drop n) (us.drop n)
  | _, _, 0, h => h
  | [], _, _ + 1, h => by cases h; rfl
  | _ :: _, _, n + 1, ⟨u, r, e, a, b⟩ => by subst e; exact RVs.drop n b
theorem RVs.eraseIdx : ∀ {xs : List D} {us : List V} (n : Nat), s.RVs G xs us → s.RVs G (xs.eraseIdx n) (us.eraseIdx n)
  | [], _, _, h => by cases h; rfl
  | _ :: _, _, 0, ⟨u, r, e, a, b⟩ => by subst e; exact b
  | _ :: _, _, n + 1, ⟨u, r, e, a, b⟩ => by subst e; exact ⟨u, _, rfl, a, RVs.eraseIdx n b⟩
theorem RVs.one {x : D} {u : V} (r : s.RV G x u) : s.RVs G [x] [u] := ⟨u, [], rfl, r, rfl⟩
theorem RVs.replicate {xs : List D} {us : List V} (r : s.RVs G xs us) : ∀ n : Nat, s.RVs G (List.replicate n xs).flatten (List.replicate n us).flatten
  | 0 => rfl
  | n + 1 => by
    rw [List.replicate_succ, List.replicate_succ, List.flatten_cons, List.flatten_cons]
    exact RVs.append r (RVs.replicate r n)
theorem RFs.get : ∀ {fs : List (Nat × D)} {us : List (Str × V)} {f : Nat} {x : D}, s.RFs G fs us → getF fs f = some x → ∃ u, us.lookup (G.nm f) = some u ∧ s.RV G x u
  | [], _, _, _, _, e => by simp [getF] at e
  | (g, y) :: fs, _, f, x, ⟨u, r, e, a, b⟩, q => by
    subst e
    by_cases hg : f = g
    · subst hg
      simp [getF, List.lookup] at q
      subst q
      exact ⟨u, by simp [List.lookup], a⟩
    · have hb : (f == g) = false := by simpa using hg
      have q' : getF fs f = some x := by simpa [getF, List.lookup, hb] using q
      obtain ⟨w, h1, h2⟩ := RFs.get b q'
      have hn : ¬ G.nm f = G.nm g := fun e => hg (G.inj f g e)
      have hb2 : (G.nm f == G.nm g) = false := by simpa using hn
      exact ⟨w, by simpa [List.lookup, hb2] using h1, h2⟩
theorem RFs.none : ∀ {fs : List (Nat × D)} {us : List (Str × V)} {f : Nat}, s.RFs G fs us → getF fs f = none → us.lookup (G.nm f) = none
  | [], _, _, h, _ => by cases h; rfl
  | (g, y) :: fs, _, f, ⟨u, r, e, a, b⟩, q => by
    subst e
    by_cases hg : f = g
    · subst hg
      simp [getF, List.lookup] at q
    · have hb : (f == g) = false := by simpa using hg
      have q' : getF fs f = Option.none := by simpa [getF, List.lookup, hb] using q
      have hn : ¬ G.nm f = G.nm g := fun e => hg (G.inj f g e)
      have hb2 : (G.nm f == G.nm g) = false := by simpa using hn
      simpa [List.lookup, hb2] using RFs.none b q'
theorem RFs.keys : ∀ {fs : List (Nat × D)} {us : List (Str × V)}, s.RFs G fs us → us.map (·.1) = fs.map fun p => G.nm p.1
  | [], _, h => by cases h; rfl
  | (g, y) :: fs, _, ⟨u, r, e, a, b⟩ => by subst e; simp [RFs.keys b]
theorem RFs.length {fs : List (Nat × D)} {us : List (Str × V)} (r : s.RFs G fs us) : fs.length = us.length := by
  have := congrArg List.length r.keys
  simpa using this.symm
theorem RFs.put {f : Nat} {x : D} {v : V} (rv : s.RV G x v) : ∀ {fs : List (Nat × D)} {us : List (Str × V)}, s.RFs G fs us → s.RFs G (putF f x fs) (L2.putF (G.nm f) v us)
  | [], _, h => by cases h; exact ⟨v, [], rfl, rv, rfl⟩
  | (g, y) :: fs, _, ⟨u, r, e, a, b⟩ => by
    subst e
    by_cases hg : g = f
    · subst hg
      simp only [putF, L2.putF, if_true]
      exact ⟨v, r, rfl, rv, b⟩
    · have hn : ¬ G.nm g = G.nm f := fun e => hg (G.inj g f e)
      simp only [putF, L2.putF, if_neg hg, if_neg hn]
      exact ⟨u, _, rfl, a, RFs.put rv b⟩

/-! ### dicts -/
theorem keyK_of {d : D} (h : isKey d = true) : ∃ k, keyK d = some k := by
  cases d <;> first | exact ⟨_, rfl⟩ | cases h
theorem keyK_is {d : D} {k : Key} (h : keyK d = some k) : isKey d = true := by
  cases d <;> first | rfl | cases h
theorem keyK_inj {a b : D} {k : Key} (h : keyK a = some k) (h2 : keyK b = some k) : a = b := by
  cases a <;> cases h <;> cases b <;> cases h2 <;> rfl
theorem keyK_rv {d : D} {k : Key} {v : V} (h : keyK d = some k) (q : s.RV G d v) : v = kV k := by
  cases d <;> cases h <;> exact q
theorem RKs.length : ∀ {xs : List (D × D)} {us : List (Key × V)}, s.RKs G xs us → xs.length = us.length
  | [], _, h => by cases h; rfl
  | (_, _) :: _, _, ⟨_, _, _, e, _, _, b⟩ => by subst e; simp [RKs.length b]
/-- the same entry, or none on both sides -/
def RVo (G : Gx) (s : Sx) : Option D → Option V → Prop
  | some d, some v => s.RV G d v
  | none, none => True
  | _, _ => False
theorem RKs.get {i : D} {k : Key} (hk : keyK i = some k) : ∀ {xs : List (D × D)} {us : List (Key × V)}, s.RKs G xs us → RVo G s (dget xs i) (valV us k)
  | [], _, h => by cases h; exact trivial
  | (j, x) :: xs, _, ⟨kk, u, r, e, hkk, a, b⟩ => by
    subst e
    by_cases hj : j = i
    · subst hj
      rw [hk] at hkk; cases hkk
      rw [valV_pos rfl]
      simpa [dget, RVo] using a
    · have hne : ¬ kk = k := fun e => hj (keyK_inj (by rw [hkk, e]) hk)
      rw [valV_neg hne]
      have := RKs.get hk b
      have e2 : dget ((j, x) :: xs) i = dget xs i := by simp [dget, List.find?_cons, hj]
      rw [e2]; exact this
theorem RKs.any {i : D} {k : Key} (hk : keyK i = some k) : ∀ {xs : List (D × D)} {us : List (Key × V)}, s.RKs G xs us → (xs.any fun p => decide (p.1 = i)) = us.any fun p => decide (p.1 = k)
  | [], _, h => by cases h; rfl
  | (j, x) :: xs, _, ⟨kk, u, r, e, hkk, a, b⟩ => by
    subst e
    rw [List.any_cons, List.any_cons, RKs.any hk b]
    congr 1
    by_cases hj : j = i
    · subst hj
      rw [hk] at hkk; cases hkk
      simp
    · have hne : ¬ kk = k := fun e => hj (keyK_inj (by rw [hkk, e]) hk)
      rw [decide_eq_false hj, decide_eq_false hne]
theorem RKs.repl {i x : D} {k : Key} {u : V} (hk : keyK i = some k) (r : s.RV G x u) : ∀ {xs : List (D × D)} {us : List (Key × V)}, s.RKs G xs us →
    s.RKs G (xs.map fun p => if p.1 = i then (p.1, x) else p) (us.map fun p => if p.1 = k then (p.1, u) else p)
  | [], _, h => by cases h; rfl
  | (j, y) :: xs, _, ⟨kk, w, rs, e, hkk, a, b⟩ => by
    subst e
    rw [List.map_cons, List.map_cons]
    by_cases hj : j = i
    · subst hj
      rw [hk] at hkk; cases hkk
      rw [if_pos rfl, if_pos rfl]
      exact ⟨_, u, _, rfl, hk, r, RKs.repl hk r b⟩
    · have hne : ¬ kk = k := fun e => hj (keyK_inj (by rw [hkk, e]) hk)
      rw [if_neg hj, if_neg hne]
      exact ⟨kk, w, _, rfl, hkk, a, RKs.repl hk r b⟩
theorem RKs.snoc {i x : D} {k : Key} {u : V} (hk : keyK i = some k) (r : s.RV G x u) : ∀ {xs : List (D × D)} {us : List (Key × V)}, s.RKs G xs us → s.RKs G (xs ++ [(i, x)]) (us ++ [(k, u)])
  | [], _, h => by cases h; exact ⟨k, u, [], rfl, hk, r, rfl⟩
  | (_, _) :: _, _, ⟨kk, w, rs, e, hkk, a, b⟩ => by subst e; exact ⟨kk, w, _, rfl, hkk, a, RKs.snoc hk r b⟩
theorem RKs.put {i x : D} {k : Key} {u : V} (hk : keyK i = some k) (r : s.RV G x u) {xs : List (D × D)} {us : List (Key × V)} (h : s.RKs G xs us) : s.RKs G (dput xs i x) (putK us k u) := by
  unfold dput putK
  rw [RKs.any hk h]
  split
  · exact RKs.repl hk r h
  · exact RKs.snoc hk r h

/-! ### states -/
theorem REL.live_there (R : REL G s) {p : Addr} (h : s.L p) : ∃ o, s.H p = some o := by
  rcases h with h | ⟨n, nd, a, _⟩
  · exact R.exT p h
  · exact R.there n p a
theorem REL.fresh (R : REL G s) {p : Addr} (hp : s.H p = none) : ¬ s.L p := fun h => by
  obtain ⟨o, e⟩ := R.live_there h
  rw [hp] at e; cases e
theorem REL.notin (R : REL G s) {p : Addr} (hp : s.H p = none) (n : Nat) : s.am n ≠ some p := fun h => by
  obtain ⟨o, e⟩ := R.there n p h
  rw [hp] at e; cases e

/-- a new thing that is no node -/
def Sx.lay (s : Sx) (p : Addr) (o : HO) : Sx := { s with H := upd s.H p o }
theorem REL.exne (R : REL G s) {p q : Addr} (hp : s.H p = none) (h : s.ex q) : q ≠ p := fun e => by
  obtain ⟨o, k⟩ := R.exT q h
  rw [e, hp] at k; cases k
theorem TR.lay (R : REL G s) {p : Addr} {o : HO} (hp : s.H p = none) : TR s (s.lay p o) :=
  ⟨fun _ _ h => h, fun q u h k => ⟨(upd_ne (ne_of_none h hp)).trans h, k⟩, fun q h => ⟨h, upd_ne (R.exne hp h)⟩⟩
theorem NR.monoZ (t : TZ s s') {nd : Node} {p : Addr} (e : s'.H p = s.H p) (h : NR G s.am s.L s.H nd p) : NR G s'.am s'.L s'.H nd p := by
  cases nd with
  | lst xs => obtain ⟨us, a, b⟩ := h; exact ⟨us, e.trans a, RVs.monoZ t b⟩
  | ins c fs => obtain ⟨dx, us, a, b⟩ := h; exact ⟨dx, us, e.trans a, RFs.monoZ t b⟩
  | dic _ => obtain ⟨us, a, b⟩ := h; exact ⟨us, e.trans a, RKs.monoZ t b⟩
  | dead => trivial
  | dit _ => obtain ⟨us, a, b, c⟩ := h; exact ⟨us, e.trans a, RTs.monoZ t b, c⟩
theorem NR.mono (t : TR s s') {nd : Node} {p : Addr} (e : s'.H p = s.H p) (h : NR G s.am s.L s.H nd p) : NR G s'.am s'.L s'.H nd p := NR.monoZ t.z e h
theorem REL.lay (R : REL G s) {p : Addr} {o : HO} (hp : s.H p = none) : REL G (s.lay p o) where
  dom := R.dom
  cod := R.cod
  inj := R.inj
  node := fun n nd q e a => (R.node n nd q e a).mono (TR.lay R hp) (upd_ne fun z => R.notin hp n (by rw [← z]; exact a))
  there := fun n q a => by
    obtain ⟨u, e⟩ := R.there n q a
    exact ⟨u, (upd_ne fun z => R.notin hp n (by rw [← z]; exact a)).trans e⟩
  exT := fun q h => by
    obtain ⟨u, e⟩ := R.exT q h
    exact ⟨u, (upd_ne (R.exne hp h)).trans e⟩
  exN := R.exN
/-- a new node -/
def Sx.push (s : Sx) (p : Addr) (nd : Node) (o : HO) : Sx := ⟨fun n => if n = s.h.length then some p else s.am n, s.h ++ [nd], upd s.H p o, s.ex⟩
theorem push_L (R : REL G s) {p : Addr} {nd : Node} {o : HO} {q : Addr} (h : (s.push p nd o).L q) : q = p ∨ s.L q := by
  rcases h with h | ⟨n, d, a, e, k⟩
  · exact .inr (.inl h)
  have a' : (if n = s.h.length then some p else s.am n) = some q := a
  by_cases hn : n = s.h.length
  · rw [if_pos hn] at a'
    exact .inl (Option.some.inj a').symm
  · rw [if_neg hn] at a'
    have hl := R.cod n q a'
    have e' : (s.h ++ [nd])[n]? = some d := e
    rw [List.getElem?_append_left hl] at e'
    exact .inr (.inr ⟨n, d, a', e', k⟩)
theorem TR.push (R : REL G s) {p : Addr} {nd : Node} {o : HO} (hp : s.H p = none) : TR s (s.push p nd o) :=
  ⟨fun n q h => by
      show (if n = s.h.length then some p else s.am n) = some q
      rw [if_neg (Nat.ne_of_lt (R.cod n q h))]
      exact h,
    fun q u h k => ⟨(upd_ne (ne_of_none h hp)).trans h, fun z => (push_L R z).elim (ne_of_none h hp) k⟩, fun q h => ⟨h, upd_ne (R.exne hp h)⟩⟩
theorem REL.push (R : REL G s) {p : Addr} {nd : Node} {o : HO} (hp : s.H p = none) (h : NR G (s.push p nd o).am (s.push p nd o).L (s.push p nd o).H nd p) : REL G (s.push p nd o) := by
  have t : TR s (s.push p nd o) := TR.push R hp
  have old : ∀ n, n ≠ s.h.length → (s.push p nd o).am n = s.am n := fun n hn => if_neg hn
  have new : (s.push p nd o).am s.h.length = some p := if_pos rfl
  refine ⟨fun n hn => ?_, fun n q a => ?_, fun n m q a b => ?_, fun n d q e a => ?_, fun n q a => ?_, fun q h => ?_, fun n q a h => ?_⟩
  · by_cases hl : n = s.h.length
    · exact ⟨p, by rw [hl]; exact new⟩
    · have hn' : n < (s.h ++ [nd]).length := hn
      rw [List.length_append, List.length_singleton] at hn'
      obtain ⟨q, e⟩ := R.dom n (by omega)
      exact ⟨q, (old n hl).trans e⟩
  · show n < (s.h ++ [nd]).length
    rw [List.length_append, List.length_singleton]
    by_cases hl : n = s.h.length
    · omega
    · rw [old n hl] at a
      have := R.cod n q a
      omega
  · by_cases hl : n = s.h.length
    · subst hl
      rw [new] at a; cases a
      by_cases hm : m = s.h.length
      · exact hm.symm
      · rw [old m hm] at b
        exact absurd b (R.notin hp m)
    · rw [old n hl] at a
      by_cases hm : m = s.h.length
      · subst hm
        rw [new] at b; cases b
        exact absurd a (R.notin hp n)
      · rw [old m hm] at b
        exact R.inj n m q a b
  · by_cases hl : n = s.h.length
    · subst hl
      rw [new] at a; cases a
      have e' : (s.h ++ [nd])[s.h.length]? = some d := e
      rw [List.getElem?_append_right (Nat.le_refl _), Nat.sub_self] at e'
      cases e'
      exact h
    · rw [old n hl] at a
      have hlt := R.cod n q a
      have e' : (s.h ++ [nd])[n]? = some d := e
      rw [List.getElem?_append_left hlt] at e'
      exact (R.node n d q e' a).mono t (upd_ne fun z => R.notin hp n (by rw [← z]; exact a))
  · by_cases hl : n = s.h.length
    · subst hl
      rw [new] at a; cases a
      exact ⟨o, upd_same⟩
    · rw [old n hl] at a
      obtain ⟨u, e⟩ := R.there n q a
      exact ⟨u, (upd_ne fun z => R.notin hp n (by rw [← z]; exact a)).trans e⟩
  · obtain ⟨u, e⟩ := R.exT q h
    exact ⟨u, (upd_ne (R.exne hp h)).trans e⟩
  · by_cases hl : n = s.h.length
    · subst hl
      rw [new] at a; cases a
      exact R.exne hp h rfl
    · rw [old n hl] at a
      exact R.exN n q a h
/-- a live node is written -/
def Sx.put (s : Sx) (n : Nat) (p : Addr) (nd : Node) (o : HO) : Sx := ⟨s.am, s.h.set n nd, upd s.H p o, s.ex⟩
theorem put_L {n : Nat} {p : Addr} {nd old : Node} {o : HO} (hn : s.h[n]? = some old) (hl : old ≠ .dead) (hp : s.am n = some p) {q : Addr} (h : (s.put n p nd o).L q) : s.L q := by
  rcases h with h | ⟨m, d, a, e, k⟩
  · exact .inl h
  have a' : s.am m = some q := a
  have e' : (s.h.set n nd)[m]? = some d := e
  by_cases hm : n = m
  · subst hm
    exact .inr ⟨n, old, a', hn, hl⟩
  · rw [List.getElem?_set_ne hm] at e'
    exact .inr ⟨m, d, a', e', k⟩
theorem TR.put (R : REL G s) {n : Nat} {p : Addr} {nd old : Node} {o : HO} (hn : s.h[n]? = some old) (hl : old ≠ .dead) (hp : s.am n = some p) : TR s (s.put n p nd o) :=
  ⟨fun _ _ h => h, fun q u h k => ⟨(upd_ne fun z => k (by rw [z]; exact .inr ⟨n, old, hp, hn, hl⟩)).trans h, fun z => k (put_L hn hl hp z)⟩, fun q h => ⟨h, upd_ne fun e => R.exN n p hp (by rw [← e]; exact h)⟩⟩
theorem REL.put (R : REL G s) {n : Nat} {p : Addr} {nd old : Node} {o : HO} (hn : s.h[n]? = some old) (hl : old ≠ .dead) (hp : s.am n = some p)
    (h : NR G (s.put n p nd o).am (s.put n p nd o).L (s.put n p nd o).H nd p) : REL G (s.put n p nd o) := by
  have t : TR s (s.put n p nd o) := TR.put R hn hl hp
  refine ⟨fun m hm => R.dom m (by simpa [Sx.put] using hm), fun m q a => by simpa [Sx.put] using R.cod m q a, R.inj, fun m d q e a => ?_, fun m q a => ?_, fun q h => ?_, R.exN⟩
  · have a' : s.am m = some q := a
    have e' : (s.h.set n nd)[m]? = some d := e
    by_cases hm : n = m
    · subst hm
      rw [hp] at a'; cases a'
      have hlt : n < s.h.length := (List.getElem?_eq_some_iff.mp hn).1
      rw [List.getElem?_set_self hlt] at e'
      cases e'
      exact h
    · rw [List.getElem?_set_ne hm] at e'
      exact (R.node m d q e' a').mono t (upd_ne fun z => hm (R.inj n m p hp (by rw [← z]; exact a')))
  · have a' : s.am m = some q := a
    by_cases hm : n = m
    · subst hm
      rw [hp] at a'; cases a'
      exact ⟨o, upd_same⟩
    · obtain ⟨u, e⟩ := R.there m q a'
      exact ⟨u, (upd_ne fun z => hm (R.inj n m p hp (by rw [← z]; exact a'))).trans e⟩
  · obtain ⟨u, e⟩ := R.exT q h
    exact ⟨u, (upd_ne fun e => R.exN n p hp (by rw [← e]; exact h)).trans e⟩
/-- a node dies: nothing moves -/
def Sx.kill (s : Sx) (n : Nat) : Sx := ⟨s.am, s.h.set n .dead, s.H, s.ex⟩
theorem kill_L {n : Nat} {q : Addr} (h : (s.kill n).L q) : s.L q ∧ (s.ex q ∨ ∃ m, m ≠ n ∧ s.am m = some q) := by
  rcases h with h | ⟨m, d, a, e, k⟩
  · exact ⟨.inl h, .inl h⟩
  have a' : s.am m = some q := a
  have e' : (s.h.set n .dead)[m]? = some d := e
  by_cases hm : n = m
  · subst hm
    by_cases hlt : n < s.h.length
    · rw [List.getElem?_set_self hlt] at e'
      cases e'
      exact absurd rfl k
    · rw [List.getElem?_eq_none (by simpa using hlt)] at e'
      cases e'
  · rw [List.getElem?_set_ne hm] at e'
    exact ⟨.inr ⟨m, d, a', e', k⟩, .inr ⟨m, Ne.symm hm, a'⟩⟩
theorem TR.kill (n : Nat) : TR s (s.kill n) := ⟨fun _ _ h => h, fun q u h k => ⟨h, fun z => k (kill_L z).1⟩, fun q h => ⟨h, rfl⟩⟩
theorem REL.kill (R : REL G s) (n : Nat) : REL G (s.kill n) := by
  refine ⟨fun m hm => R.dom m (by simpa [Sx.kill] using hm), fun m q a => by simpa [Sx.kill] using R.cod m q a, R.inj, fun m d q e a => ?_, R.there, R.exT, R.exN⟩
  have a' : s.am m = some q := a
  have e' : (s.h.set n .dead)[m]? = some d := e
  by_cases hm : n = m
  · subst hm
    by_cases hlt : n < s.h.length
    · rw [List.getElem?_set_self hlt] at e'
      cases e'
      trivial
    · rw [List.getElem?_eq_none (by simpa using hlt)] at e'
      cases e'
  · rw [List.getElem?_set_ne hm] at e'
    exact (R.node m d q e' a').mono (TR.kill n) rfl

/-- an exception's fields -/
def XR (G : Gx) (s : Sx) (fs : List (Nat × D)) (dx : Option Addr) : Prop :=
  (fs = [] ∧ dx = none) ∨ ∃ d us, fs ≠ [] ∧ dx = some d ∧ s.H d = some (.xd us) ∧ ¬ s.L d ∧ ∀ f x, getF fs f = some x → ∃ u, us.lookup (G.nm f) = some u ∧ s.RV G x u
theorem XR.mono {G : Gx} {s s' : Sx} (t : TR s s') {fs : List (Nat × D)} {dx : Option Addr} (h : XR G s fs dx) : XR G s' fs dx := by
  rcases h with h | ⟨d, us, nf, e, a, k, q⟩
  · exact .inl h
  · obtain ⟨a', k'⟩ := t.keep d _ a k
    exact .inr ⟨d, us, nf, e, a', k', fun f x e => let ⟨u, h1, h2⟩ := q f x e; ⟨u, h1, RV.mono t h2⟩⟩
/-- the frame's slots -/
structure EV (G : Gx) (s : Sx) (ρ : En) (σ : St) : Prop where
  len : ρ.length = σ.length
  at_ : ∀ (i : Nat) d, ρ[i]? = some (some d) → ∃ v, σ[i]? = some (some v) ∧ s.RV G d v
  ex_ : ∀ i v w, G.exs = some ((i, v), w) → σ[i]? = some (some v) ∧ XR G s w.1 w.2
theorem EV.mono {ρ : En} {σ : St} (t : TR s s') (e : EV G s ρ σ) : EV G s' ρ σ :=
  ⟨e.len, fun i d h => let ⟨v, a, b⟩ := e.at_ i d h; ⟨v, a, RV.mono t b⟩, fun i v w h => let ⟨a, b⟩ := e.ex_ i v w h; ⟨a, b.mono t⟩⟩
/-- the slot is not the exception's -/
def Gx.off (G : Gx) (i : Nat) : Prop := ∀ v w, G.exs ≠ some ((i, v), w)
theorem EV.set {ρ : En} {σ : St} (e : EV G s ρ σ) (i : Nat) (hx : G.off i) {d : D} {v : V} (r : s.RV G d v) : EV G s (ρ.set i (some d)) (σ.set i (some v)) := by
  refine ⟨by simpa using e.len, fun j x h => ?_, fun j v w h => ?_⟩
  case refine_2 =>
    have hj : i ≠ j := fun z => hx v w (by rw [z]; exact h)
    rw [List.getElem?_set_ne hj]
    exact e.ex_ j v w h
  by_cases hj : i = j
  · subst hj
    by_cases hl : i < ρ.length
    · rw [List.getElem?_set_self hl] at h
      cases h
      exact ⟨v, List.getElem?_set_self (by rw [← e.len]; exact hl), r⟩
    · rw [List.getElem?_eq_none (by simpa using hl)] at h
      cases h
  · rw [List.getElem?_set_ne hj] at h
    obtain ⟨u, a, b⟩ := e.at_ j x h
    exact ⟨u, by rw [List.getElem?_set_ne hj]; exact a, b⟩
theorem EV.unset {ρ : En} {σ : St} (e : EV G s ρ σ) (i : Nat) (hx : G.off i) (wv : Option V) : EV G s (ρ.set i none) (σ.set i wv) := by
  refine ⟨by simpa using e.len, fun j x h => ?_, fun j v w h => ?_⟩
  case refine_2 =>
    have hj : i ≠ j := fun z => hx v w (by rw [z]; exact h)
    rw [List.getElem?_set_ne hj]
    exact e.ex_ j v w h
  by_cases hj : i = j
  · subst hj
    by_cases hl : i < ρ.length
    · rw [List.getElem?_set_self hl] at h
      cases h
    · rw [List.getElem?_eq_none (by simpa using hl)] at h
      cases h
  · rw [List.getElem?_set_ne hj] at h
    obtain ⟨u, a, b⟩ := e.at_ j x h
    exact ⟨u, by rw [List.getElem?_set_ne hj]; exact a, b⟩
end

/-! ### the same with another exception in hand -/
abbrev Gx.wx (G : Gx) (e : Option ((Nat × V) × (List (Nat × D) × Option Addr))) : Gx := { G with exs := e }
section
variable {G : Gx} {e : Option ((Nat × V) × (List (Nat × D) × Option Addr))} {α : AM} {L : Addr → Prop} {H : Hp}
mutual
theorem RV.wx : ∀ {d : D} {v : V}, Mini.RV G α L H d v → Mini.RV (G.wx e) α L H d v
  | .non, _, h => h
  | .bl _, _, h => h
  | .int _, _, h => h
  | .str _, _, h => h
  | .tup _, _, ⟨p, us, e, r, k, q⟩ => ⟨p, us, e, r, k, RVs.wx q⟩
  | .lst _, _, ⟨p, us, e, r, k, q⟩ => ⟨p, us, e, r, k, RVs.wx q⟩
  | .scr _, _, ⟨p, us, e, r, q⟩ => ⟨p, us, e, r, RVs.wx q⟩
  | .ref _, _, ⟨p, e, a⟩ => ⟨p, e, a⟩
  | .ins _ _, _, ⟨p, dx, us, e, r, k, q⟩ => ⟨p, dx, us, e, r, k, RFs.wx q⟩
theorem RVs.wx : ∀ {d : List D} {v : List V}, Mini.RVs G α L H d v → Mini.RVs (G.wx e) α L H d v
  | [], _, h => h
  | _ :: _, _, ⟨u, r, e, a, b⟩ => ⟨u, r, e, RV.wx a, RVs.wx b⟩
theorem RFs.wx : ∀ {d : List (Nat × D)} {v : List (Str × V)}, Mini.RFs G α L H d v → Mini.RFs (G.wx e) α L H d v
  | [], _, h => h
  | (_, _) :: _, _, ⟨u, r, e, a, b⟩ => ⟨u, r, e, RV.wx a, RFs.wx b⟩
end
theorem RKs.wx : ∀ {d : List (D × D)} {v : List (Key × V)}, Mini.RKs G α L H d v → Mini.RKs (G.wx e) α L H d v
  | [], _, h => h
  | (_, _) :: _, _, ⟨kk, u, r, e, k, a, b⟩ => ⟨kk, u, r, e, k, RV.wx a, RKs.wx b⟩
theorem RTs.wx : ∀ {d : List (D × D)} {v : List (NestedKey × Addr × Value)}, Mini.RTs G α L H d v → Mini.RTs (G.wx e) α L H d v
  | [], _, h => h
  | (_, _) :: _, _, ⟨nk, p, u, r, e, k, kd, a, ⟨v, b1, b2⟩, c⟩ => ⟨nk, p, u, r, e, k, kd, RV.wx a, ⟨v, RV.wx b1, b2⟩, RTs.wx c⟩
theorem REL.wx {s : Sx} (R : REL G s) : REL (G.wx e) s where
  dom := R.dom
  cod := R.cod
  inj := R.inj
  node := fun n nd p e a => by
    have h := R.node n nd p e a
    cases nd with
    | lst xs => obtain ⟨us, h1, h2⟩ := h; exact ⟨us, h1, RVs.wx h2⟩
    | ins c fs => obtain ⟨dx, us, h1, h2⟩ := h; exact ⟨dx, us, h1, RFs.wx h2⟩
    | dic _ => obtain ⟨us, h1, h2⟩ := h; exact ⟨us, h1, RKs.wx h2⟩
    | dead => trivial
    | dit _ => obtain ⟨us, h1, h2, h3⟩ := h; exact ⟨us, h1, RTs.wx h2, h3⟩
  there := R.there
  exT := R.exT
  exN := R.exN
theorem XR.wx {s : Sx} {fs : List (Nat × D)} {dx : Option Addr} (h : XR G s fs dx) : XR (G.wx e) s fs dx := by
  rcases h with h | ⟨d, us, nf, h1, h2, k, q⟩
  · exact .inl h
  · exact .inr ⟨d, us, nf, h1, h2, k, fun f x hf => let ⟨u, a, b⟩ := q f x hf; ⟨u, a, RV.wx b⟩⟩
end
theorem Gx.wx_wx (G : Gx) (e e2 : Option ((Nat × V) × (List (Nat × D) × Option Addr))) : (G.wx e).wx e2 = G.wx e2 := rfl
theorem Gx.wx_self (G : Gx) : G.wx G.exs = G := rfl

/-! ### what is to hold behind -/
section
variable (G : Gx) (W : WX) (σ : St)
/-- rel: how the result's value lies -/
def Post {β γ : Type} (rel : Sx → β → γ → Prop) (s : Sx) (r : Res β) (Q : γ → Hp → Prop) : Prop :=
  match r with
  | .ok b h' => ∀ (s' : Sx) (c : γ), s'.h = h' → TR s s' → REL G s' → rel s' b c → Q c s'.H
  | .exc c fs h' => ∀ (s' : Sx) (dx : Option Addr), s'.h = h' → TR s s' → REL G s' → XR G s' fs dx → W (.ref (G.ca c)) dx σ s'.H
  | .stuck => False
abbrev rV : Sx → D → V → Prop := fun s d v => s.RV G d v
abbrev rVs : Sx → List D → List V → Prop := fun s d v => s.RVs G d v
abbrev rB : Sx → Bool → Bool → Prop := fun _ a b => a = b
abbrev rO : Sx → Option Int → Option Int → Prop := fun _ a b => a = b
end
section
variable {G : Gx} {W : WX} {σ : St} {β γ δ ε : Type} {rel : Sx → β → γ → Prop} {rel' : Sx → δ → ε → Prop} {s s1 : Sx}
theorem Post.shift {r : Res β} {Q : γ → Hp → Prop} (t : TR s s1) (p : Post G W σ rel s r Q) : Post G W σ rel s1 r Q := by
  cases r with
  | ok b h => exact fun s' c e t' => p s' c e (t.trans t')
  | exc c fs h => exact fun s' dx e t' => p s' dx e (t.trans t')
  | stuck => exact p
theorem Post.imp {r : Res β} {Q Q' : γ → Hp → Prop} (p : Post G W σ rel s r Q) (h : ∀ c H, Q c H → Q' c H) : Post G W σ rel s r Q' := by
  cases r with
  | ok b h1 => exact fun s' c e t R k => h _ _ (p s' c e t R k)
  | exc c fs h => exact p
  | stuck => exact p
/-- behind the first part -/
def Mid (G : Gx) (W : WX) (σ : St) {β γ δ ε : Type} (rel : Sx → β → γ → Prop) (rel' : Sx → δ → ε → Prop) (s : Sx) (k : β → Hm → Res δ) (Q : ε → Hp → Prop) (v : γ) (H : Hp) : Prop :=
  ∃ s1 b, s1.H = H ∧ TR s s1 ∧ REL G s1 ∧ rel s1 b v ∧ Post G W σ rel' s1 (k b s1.h) Q
theorem Post.bind {r : Res β} {k : β → Hm → Res δ} {Q : ε → Hp → Prop} (p : Post G W σ rel' s (r.bind k) Q) : Post G W σ rel s r (Mid G W σ rel rel' s k Q) := by
  cases r with
  | ok b h => exact fun s' c e t R q => ⟨s', b, rfl, t, R, q, by subst e; exact Post.shift t p⟩
  | exc c fs h => exact p
  | stuck => exact p
/-- the value is there -/
theorem Post.now {b : β} {c : γ} {Q : γ → Hp → Prop} (p : Post G W σ rel s (.ok b s.h) Q) (R : REL G s) (q : rel s b c) : Q c s.H := p s c rfl (TR.refl s) R q
theorem Post.at {b : β} {c : γ} {Q : γ → Hp → Prop} {h : Hm} (p : Post G W σ rel s (.ok b h) Q) (s' : Sx) (e : s'.h = h) (t : TR s s') (R : REL G s') (q : rel s' b c) : Q c s'.H := p s' c e t R q
end

/-! ### the readings -/
/-- an expression's, an argument list's, a test's, an optional part's -/
def rdE (G : Gx) (W : WX) (m : En → Hm → Res D) : TE := fun σ H Q => ∃ s ρ, s.H = H ∧ REL G s ∧ EV G s ρ σ ∧ Post G W σ (rV G) s (m ρ s.h) Q
def rdA (G : Gx) (W : WX) (m : En → Hm → Res (List D)) : TA := fun σ H Q => ∃ s ρ, s.H = H ∧ REL G s ∧ EV G s ρ σ ∧ Post G W σ (rVs G) s (m ρ s.h) Q
def rdT (G : Gx) (W : WX) (m : En → Hm → Res Bool) : TT := fun σ H Q => ∃ s ρ, s.H = H ∧ REL G s ∧ EV G s ρ σ ∧ Post G W σ rB s (m ρ s.h) Q
def rdO (G : Gx) (W : WX) (m : En → Hm → Res (Option Int)) : TO := fun σ H Q => ∃ s ρ, s.H = H ∧ REL G s ∧ EV G s ρ σ ∧ Post G W σ rO s (m ρ s.h) Q
/-- a statement's -/
def PostS (G : Gx) (W : WX) (s : Sx) (r : SRes) (D : Ends) : Prop :=
  match r with
  | .ok f ρ h' => ∀ (s' : Sx) (σ : St), s'.h = h' → TR s s' → REL G s' → EV G s' ρ σ → match f with
    | .next => D.nx σ s'.H
    | .brk => D.bk σ s'.H
    | .cont => D.ct σ s'.H
    | .ret d => ∀ v, s'.RV G d v → D.rt v s'.H
  | .exc c fs ρ h' => ∀ (s' : Sx) (σ : St) (dx : Option Addr), s'.h = h' → TR s s' → REL G s' → EV G s' ρ σ → XR G s' fs dx → W (.ref (G.ca c)) dx σ s'.H
  | .stuck => False
def rdS (G : Gx) (W : WX) (m : En → Hm → SRes) : TS := fun D σ H => ∃ s ρ, s.H = H ∧ REL G s ∧ EV G s ρ σ ∧ PostS G W s (m ρ s.h) D
theorem PostS.shift {G : Gx} {W : WX} {s s1 : Sx} {r : SRes} {D : Ends} (t : TR s s1) (p : PostS G W s r D) : PostS G W s1 r D := by
  cases r with
  | ok f ρ h => exact fun s' σ e t' => p s' σ e (t.trans t')
  | exc c fs ρ h => exact fun s' σ dx e t' => p s' σ dx e (t.trans t')
  | stuck => exact p
/-- an expression within a statement -/
theorem PostS.onE {G : Gx} {W : WX} {s : Sx} {ρ : En} {σ : St} {β γ : Type} {rel : Sx → β → γ → Prop} {r : Res β} {k : β → Hm → SRes} {D : Ends} (e : EV G s ρ σ) (p : PostS G W s (Mini.onE ρ r k) D) :
    Post G W σ rel s r (fun v H => ∃ s1 b, s1.H = H ∧ TR s s1 ∧ REL G s1 ∧ rel s1 b v ∧ PostS G W s1 (k b s1.h) D) := by
  cases r with
  | ok b h => exact fun s' c e t R q => ⟨s', b, rfl, t, R, q, by subst e; exact PostS.shift t p⟩
  | exc c fs h => exact fun s' dx e' t R q => p s' σ dx e' t R (e.mono t) q
  | stuck => exact p
end L2.Mini
set_option Elab.async false
set_option linter.all false
set_option maxRecDepth 100000
set_option maxHeartbeats 1000000
/-! Mini: dicts whose keys are tuples: how they lie, what is found in them. -/
namespace L2.Mini
open PySem PySem.Spec PyProof.Rows

mutual
theorem nkD_inj : ∀ {a b : D} {k : NestedKey}, nkD a = some k → nkD b = some k → a = b
  | .non, b, k, h1, h2 => by
    cases h1
    cases b <;> simp [nkD] at h2 <;> rfl
  | .int i, b, k, h1, h2 => by
    cases h1
    cases b <;> simp [nkD] at h2
    rw [h2]
  | .str i, b, k, h1, h2 => by
    cases h1
    cases b <;> simp [nkD] at h2
    rw [h2]
  | .tup xs, b, k, h1, h2 => by
    simp only [nkD, Option.map_eq_some_iff] at h1
    obtain ⟨ks, h1, rfl⟩ := h1
    cases b <;> simp [nkD] at h2
    rw [nkDs_inj h1 h2]
  | .bl _, _, _, h1, _ => by cases h1
  | .lst _, _, _, h1, _ => by cases h1
  | .scr _, _, _, h1, _ => by cases h1
  | .ref _, _, _, h1, _ => by cases h1
  | .ins _ _, _, _, h1, _ => by cases h1
theorem nkDs_inj : ∀ {a b : List D} {k : List NestedKey}, nkDs a = some k → nkDs b = some k → a = b
  | [], b, k, h1, h2 => by
    cases h1
    cases b with
    | nil => rfl
    | cons y ys =>
      unfold nkDs at h2
      split at h2 <;> cases h2
  | x :: xs, b, k, h1, h2 => by
    unfold nkDs at h1
    split at h1
    · rename_i k1 ks1 e1 e2
      cases h1
      cases b with
      | nil => cases h2
      | cons y ys =>
        unfold nkDs at h2
        split at h2
        · rename_i k2 ks2 f1 f2
          cases h2
          rw [nkD_inj e1 f1, nkDs_inj e2 f2]
        · cases h2
    · cases h1
end
theorem isTK_nk {d : D} (h : isTK d = true) : ∃ xs k, d = .tup xs ∧ nkD d = some k ∧ k.depth ≤ 8 := by
  unfold isTK at h
  split at h
  · rename_i xs
    split at h
    · rename_i k e
      exact ⟨xs, k, rfl, e, of_decide_eq_true h⟩
    · cases h
  · cases h
section
variable {G : Gx} {s : Sx}
mutual
/-- a value that lies as a key is that key -/
theorem nested_of {P : Program} {w : World} {h : Heap} (ok : HOk P w s.H h) : ∀ {d : D} {v : V} {u : Value} {k : NestedKey}, s.RV G d v → RelV v u → nkD d = some k → NestedIs h k u
  | .non, v, u, k, q, r, e => by
    cases e
    cases (show v = .non from q)
    cases (show u = Value.none from r)
    exact .none
  | .int i, v, u, k, q, r, e => by
    cases e
    cases (show v = .int i from q)
    obtain ⟨t, rfl⟩ := (show ∃ t, u = Value.int i t from r)
    exact .int _ _
  | .str i, v, u, k, q, r, e => by
    cases e
    cases (show v = .str i from q)
    obtain ⟨t, rfl⟩ := (show ∃ t, u = Value.str i t from r)
    exact .text _ _
  | .tup xs, v, u, k, q, r, e => by
    simp only [nkD, Option.map_eq_some_iff] at e
    obtain ⟨ks, e, rfl⟩ := e
    obtain ⟨p, us, rfl, hr, _, rs⟩ := q
    cases (show u = Value.ref p from r)
    obtain ⟨_, its, rv, o, h1, h2, n, h3⟩ := (show ObjOk P w s.H h p (.tup us) from hr.ok ok)
    exact .tup h1 h2 h3 (nesteds_of ok rs rv e)
  | .bl _, _, _, _, _, _, e => by cases e
  | .lst _, _, _, _, _, _, e => by cases e
  | .scr _, _, _, _, _, _, e => by cases e
  | .ref _, _, _, _, _, _, e => by cases e
  | .ins _ _, _, _, _, _, _, e => by cases e
theorem nesteds_of {P : Program} {w : World} {h : Heap} (ok : HOk P w s.H h) : ∀ {d : List D} {v : List V} {u : List Value} {k : List NestedKey}, s.RVs G d v → Vals v u → nkDs d = some k → NestedAll h k u
  | [], v, u, k, q, r, e => by
    cases e
    cases (show v = [] from q)
    cases r
    exact .nil
  | x :: xs, v, u, k, q, r, e => by
    obtain ⟨a, b, rfl, q1, q2⟩ := q
    unfold nkDs at e
    split at e
    · rename_i k1 ks1 e1 e2
      cases e
      cases r with
      | cons r1 r2 => exact .cons (nested_of ok q1 r1 e1) (nesteds_of ok q2 r2 e2)
    · cases e
end
theorem RTs.length : ∀ {xs : List (D × D)} {us : List (NestedKey × Addr × Value)}, s.RTs G xs us → xs.length = us.length
  | [], _, h => by cases h; rfl
  | (_, _) :: _, _, ⟨_, _, _, _, e, _, _, _, _, b⟩ => by subst e; simp [RTs.length b]
theorem RTs.any {i : D} {k : NestedKey} (hk : nkD i = some k) : ∀ {xs : List (D × D)} {us : List (NestedKey × Addr × Value)}, s.RTs G xs us → (xs.any fun p => decide (p.1 = i)) = (atKey us k).isSome
  | [], _, h => by cases h; rfl
  | (j, x) :: xs, _, ⟨nk, p, u, r, e, hj, _, _, _, b⟩ => by
    subst e
    rw [List.any_cons, RTs.any hk b]
    by_cases hji : j = i
    · subst hji
      rw [hk] at hj; cases hj
      simp [atKey]
    · have hne : ¬ nk = k := fun e => hji (nkD_inj (by rw [hj, e]) hk)
      rw [decide_eq_false hji, Bool.false_or]
      simp [atKey, List.find?_cons, hne]
theorem dget_any (xs : List (D × D)) (i : D) : (dget xs i).isSome = xs.any fun p => decide (p.1 = i) := by
  unfold dget
  rw [Option.isSome_map]
  induction xs with
  | nil => rfl
  | cons p r ih =>
    rw [List.any_cons, List.find?_cons]
    cases h : decide (p.1 = i) with
    | true => rfl
    | false => exact ih
theorem RTs.repl {i x : D} {k : NestedKey} {v : V} {u : Value} (hk : nkD i = some k) (q : s.RV G x v) (r : RelV v u) : ∀ {xs : List (D × D)} {us : List (NestedKey × Addr × Value)}, s.RTs G xs us →
    s.RTs G (xs.map fun p => if p.1 = i then (p.1, x) else p) (us.map (putAt k u))
  | [], _, h => by cases h; rfl
  | (j, y) :: xs, _, ⟨nk, p, u0, r0, e, hj, kd, a, b0, b⟩ => by
    subst e
    rw [List.map_cons, List.map_cons]
    unfold putAt
    by_cases hji : j = i
    · subst hji
      rw [hk] at hj; cases hj
      rw [if_pos rfl, if_pos rfl]
      exact ⟨_, p, u, _, rfl, hk, kd, a, ⟨v, q, r⟩, RTs.repl hk q r b⟩
    · have hne : ¬ nk = k := fun e => hji (nkD_inj (by rw [hj, e]) hk)
      rw [if_neg hji, if_neg hne]
      exact ⟨nk, p, u0, _, rfl, hj, kd, a, b0, RTs.repl hk q r b⟩
theorem RTs.snoc {i x : D} {k : NestedKey} {p : Addr} {v : V} {u : Value} (hk : nkD i = some k) (kd : k.depth ≤ 8) (hp : s.RV G i (.ref p)) (q : s.RV G x v) (r : RelV v u) : ∀ {xs : List (D × D)} {us : List (NestedKey × Addr × Value)}, s.RTs G xs us → s.RTs G (xs ++ [(i, x)]) (us ++ [(k, p, u)])
  | [], _, h => by cases h; exact ⟨k, p, u, [], rfl, hk, kd, hp, ⟨v, q, r⟩, rfl⟩
  | (_, _) :: _, _, ⟨nk, p0, u0, r0, e, hj, kd0, a, b0, b⟩ => by subst e; exact ⟨nk, p0, u0, _, rfl, hj, kd0, a, b0, RTs.snoc hk kd hp q r b⟩
theorem RTs.put {i x : D} {k : NestedKey} {p : Addr} {v : V} {u : Value} (hk : nkD i = some k) (kd : k.depth ≤ 8) (hp : s.RV G i (.ref p)) (q : s.RV G x v) (r : RelV v u) {xs : List (D × D)} {us : List (NestedKey × Addr × Value)} (h : s.RTs G xs us) : s.RTs G (dput xs i x) (storedH us k p u) := by
  unfold dput storedH
  rw [RTs.any hk h]
  split
  · exact RTs.repl hk q r h
  · exact RTs.snoc hk kd hp q r h
theorem RTs.is {P : Program} {w : World} {h : Heap} (ok : HOk P w s.H h) : ∀ {xs : List (D × D)} {us : List (NestedKey × Addr × Value)}, s.RTs G xs us → ∀ y ∈ us, (nestedKind P w).is h y.1 y.2.1
  | [], _, e, y, hy => by cases e; cases hy
  | (_, _) :: _, _, ⟨nk, p, u, r, e, hk, kd, a, _, b⟩, y, hy => by
    subst e
    rcases List.mem_cons.mp hy with rfl | hy
    · exact ⟨nested_of ok a rfl hk, kd⟩
    · exact RTs.is ok b y hy
/-- the dict, as the library tells it -/
theorem dit_of {P : Program} {w : World} {h : Heap} {p : Addr} {kvs : List (D × D)} {us : List (NestedKey × Addr × Value)} (ok : HOk P w s.H h) (hw : G.w = w) (hp : Rd s.H p (.ext (DFx G.w p us))) (r : s.RTs G kvs us) (nd : (us.map (·.1)).Nodup) :
    (p == sysModules) = false ∧ h.DictOfH (nestedKind P w) p us := by
  subst hw
  obtain ⟨⟨h1, o, es, ep, h2, h3, h4, h5⟩, _⟩ := (show ObjOk P G.w s.H h p (.ext (DFx G.w p us)) from hp.ok ok)
  exact ⟨h1, o, es, ep, h2, h3, h4, h5, RTs.is ok r, nd⟩
/-- .. and back -/
theorem ext_of {P : Program} {w : World} {H : Hp} {h : Heap} {p : Addr} {us : List (NestedKey × Addr × Value)} (hw : G.w = w) (h1 : (p == sysModules) = false) (dd : h.DictOfH (nestedKind P w) p us) : ObjOk P w H h p (.ext (DFx G.w p us)) := by
  subst hw
  obtain ⟨o, es, ep, h2, h3, h4, h5, _, _⟩ := dd
  exact ⟨⟨h1, o, es, ep, h2, h3, h4, h5⟩, ⟨o, h2⟩, fun a b ⟨x1, o, es, ep, x2, x3⟩ k => ⟨x1, o, es, ep, k o x2, x3⟩⟩
theorem ext_ofw {P : Program} {w : World} {H : Hp} {h : Heap} {p : Addr} {us : List (NestedKey × Addr × Value)} (h1 : (p == sysModules) = false) (dd : h.DictOfH (nestedKind P w) p us) : ObjOk P w H h p (.ext (DFx w p us)) := by
  obtain ⟨o, es, ep, h2, h3, h4, h5, _, _⟩ := dd
  exact ⟨⟨h1, o, es, ep, h2, h3, h4, h5⟩, ⟨o, h2⟩, fun a b ⟨x1, o, es, ep, x2, x3⟩ k => ⟨x1, o, es, ep, k o x2, x3⟩⟩
/-- d[k] = v -/
def rSetT (w : World) : TSet := fun o i v H Q => ∃ (p b : Addr) (us : List (NestedKey × Addr × Value)) (k : NestedKey), o = .ref p ∧ i = .ref b ∧ H p = some (.ext (DFx w p us)) ∧ us.length ≤ sizeLine ∧
  (∀ (P : Program) (h : Heap), HOk P w H h → (nestedKind P w).is h k b ∧ (p == sysModules) = false ∧ h.DictOfH (nestedKind P w) p us) ∧ ∀ u, RelV v u → Q (upd H p (.ext (DFx w p (storedH us k b u))))
theorem set_dit {X : Cx} (hu : X.A.units + 9 < cLine) : PSet X (rSetT X.w) := by
  intro pins s σ H o i v ov iv u Q I ro ri rv h
  obtain ⟨p, b, us, k, rfl, rfl, hp, hl, hk, q⟩ := h
  cases (show ov = Value.ref p from ro)
  cases (show iv = Value.ref b from ri)
  obtain ⟨h1, h2, h3⟩ := hk X.prog s.heap I.hok
  have hr : (nestedKind X.prog X.w).room X.A.in1 := by show X.A.units + 1 + 8 < cLine; omega
  refine wpAny_setItem_heap (hsz := hl) hr h1 h3 fun h' hm' hs => ⟨_, ?_, q u rv⟩
  have he : ∃ q, h'.get? p = some q := let ⟨q, _, _, hq, _⟩ := hm'; ⟨q, hq⟩
  exact d_write I (by rw [hp]; exact True.intro) hs he (ext_ofw h2 hm')
theorem stored_nodup {us : List (NestedKey × Addr × Value)} {k : NestedKey} {p : Addr} {u : Value} (nd : (us.map (·.1)).Nodup) : ((storedH us k p u).map (·.1)).Nodup := by
  unfold storedH
  split
  · have : (us.map (putAt k u)).map (·.1) = us.map (·.1) := by
      rw [List.map_map]
      refine List.map_congr_left fun x _ => ?_
      show (putAt k u x).1 = x.1
      unfold putAt
      split <;> rfl
    rw [this]; exact nd
  · rename_i hn
    rw [List.map_append, List.nodup_append]
    refine ⟨nd, by simp, fun a ha b hb => ?_⟩
    have hb : b = k := by simpa using hb
    subst hb
    intro e
    subst e
    obtain ⟨x, hx, e⟩ := List.mem_map.mp ha
    refine hn ?_
    have : (us.find? fun y => decide (y.1 = a)).isSome = true := by
      rw [List.find?_isSome]
      exact ⟨x, hx, decide_eq_true e⟩
    unfold atKey
    rw [Option.isSome_map]
    exact this
theorem dput_len (kvs : List (D × D)) (k v : D) : (dput kvs k v).length ≤ kvs.length + 1 := by
  unfold dput
  split
  · rw [List.length_map]; omega
  · rw [List.length_append]; exact Nat.le_refl _
end
end L2.Mini
set_option Elab.async false
set_option linter.all false
set_option maxRecDepth 100000
set_option maxHeartbeats 4000000
/-! Mini: a tuple, no times. -/
namespace L2
open PySem PySem.Spec PyProof.Rows
theorem tuple_mul0W (l : Addr) (items : Array Value) (n : Nat) (dd : Option Addr) (sl : Array (Option Value)) (x : Int) (u : Tok) (c0 : (decide (x < -(2 ^ 63)) || decide (x ≥ 2 ^ 63)) = false) (c1 : (items.isEmpty || x == 1) = false) (c2 : (decide (x ≤ 0) || items.isEmpty) = true) :
    Meets (Builtin.«tuple.__mul__» ⟨[.ref l, .int x u], []⟩) (fun _ R s => s.heap.get? l = some { cls := .type "tuple", dict := dd, data := .seq items n, slots := sl } ∧
      R (.ok (.ret (Value.ref s.heap.objs.size))) { s with heap := s.heap.push { cls := Value.type "tuple", data := Data.seq #[] }, toks := s.toks }) :=
  .of_wp fun prog w A R s h => by
    obtain ⟨hp, g, d, tk, os⟩ := s
    obtain ⟨hl, h⟩ := h
    have f1 := AutoSeq1.idx_int
    wp_walk using wpAny_loadPart' hl
    repeat (first
      | (refine wpAny_ite_false (decide_eq_false (by rw [c0]; exact Bool.false_ne_true)) ?_; wp_walk using wpAny_loadPart' hl)
      | (refine wpAny_ite_false (decide_eq_false (by rw [c1]; exact Bool.false_ne_true)) ?_; wp_walk using wpAny_loadPart' hl)
      | (refine wpAny_ite_true (decide_eq_true c2) ?_; wp_walk using wpAny_loadPart' hl))
    exact ⟨_, rfl, h⟩
/-- * of two factors of together less than a hundred million bits -/
def CMulX (i j : Int) : Prop := i.natAbs.log2 + j.natAbs.log2 < 100000000
theorem CMulX.ok {i j : Int} (h : CMulX i j) : IntMulOk i j := by
  have b : ∀ x : Int, Builtin.Int.intBits x ≤ x.natAbs.log2 + 1 := fun x => by
    unfold Builtin.Int.intBits
    split <;> omega
  have h1 := b i
  have h2 := b j
  have h3 : i.natAbs.log2 + j.natAbs.log2 < 100000000 := h
  have e : bitsLine = 134217728 := by decide
  unfold IntMulOk
  intro z
  rw [Bool.and_eq_true] at z
  have z2 := z.2
  unfold Builtin.Int.intTooBig at z2
  have z3 := of_decide_eq_true z2
  rw [e] at z3
  omega
theorem op_mulX {X : Cx} : OpR X (binaryOp .Mult) (rI CMulX fun i j => .int (i * j)) := opI fun _ _ _ _ _ _ _ hc q => mul_int q hc.ok
def rRepT0 (K : PySem.W.Frag) : R2 := fun x y H Q => ∃ l k xs, x = .ref l ∧ y = .int k ∧ SqT K H l xs ∧ xs ≠ [] ∧ k = 0 ∧ ∀ p, H p = none → Q (.ref p) (upd H p (.tup []))
section
variable {X : Cx}
theorem op_repT0 : OpR X (binaryOp .Mult) (rRepT0 X.K) := by
  intro pins s σ H x y v u Q I rx ry h
  obtain ⟨l, k, xs, rfl, rfl, hT, hne, h1, q⟩ := h
  cases rx
  obtain ⟨t, rfl⟩ := ry
  obtain ⟨its, r, ⟨⟨cls, dd, data, sl⟩, ho, hc, n, hd⟩, hs⟩ := I.tuple hT
  simp only at hc hd
  subst hc hd
  have hle : its.length = xs.length := r.length.symm
  have hn : its ≠ [] := fun e => hne (by
    rw [e] at hle
    exact List.eq_nil_of_length_eq_zero hle.symm)
  have hi : its.toArray.isEmpty = false := by
    cases its with
    | nil => exact absurd rfl hn
    | cons a b => rfl
  have c0 : (decide (k < -(2 ^ 63)) || decide (k ≥ 2 ^ 63)) = false := by
    rw [decide_eq_false (by omega), decide_eq_false (by omega)] <;> rfl
  have c1 : (its.toArray.isEmpty || k == 1) = false := by
    rw [hi, Bool.false_or]
    exact beq_eq_false_iff_ne.mpr (by omega)
  have c2 : (decide (k ≤ 0) || its.toArray.isEmpty) = true := by
    rw [decide_eq_true (by omega)]; rfl
  refine wpAny_binaryOp_repeat_ref (T := "tuple") (U := "int") (by decide) ⟨_, ho, rfl⟩ (fun s' => typeIs_int s' k t) noFill_tuple_mul F.fills_int_mul F.slot_int_rmul repeat_tuple F.slot_int_index.lookup
    (call_meets F.slot_int_rmul (typeIs_int s k t) F.entry_int_rmul (F.args_int_rmul_2 _ _) (int_rmul_tuple k t l its.toArray n dd sl)
      ⟨ho, rfl, ⟨_, ho, rfl⟩, call_meets F.slot_tuple_mul ⟨_, ho, rfl⟩ F.entry_tuple_mul (F.args_tuple_mul_2 _ _) (tuple_mul0W l its.toArray n dd sl k t c0 c1 c2) ⟨ho, ?_⟩⟩)
  refine ⟨.ref s.heap.objs.size, _, I.laid (t' := s.toks) (o := .tup []) (fun b ob q => Heap.get?_push_of_some _ q) (Nat.le_refl _) ?_, rfl, q _ (I.hok.fresh (Nat.le_refl _))⟩
  have nw := IsTup.new s.heap #[]
  exact ⟨by decide, _, .nil, nw⟩
end
end L2
set_option Elab.async false
set_option linter.all false
set_option maxRecDepth 100000
set_option maxHeartbeats 1000000
/-! Mini, part 4: the interpreter's expressions are sound over the hand layer. -/
namespace L2.Mini
open PySem PySem.Spec PyProof.Rows

theorem big_eq : sizeLine = big := sizeLine_eq
theorem PE.imp {X : Cx} {e : Expr} {t t' : TE} (h : PE X e t) (k : ∀ σ H Q, t' σ H Q → t σ H Q) : PE X e t' := ⟨fun pins s σ H Q I w => h.run pins s σ H Q I (k σ H Q w)⟩

section
variable {G : Gx} {W : WX} {X : Cx} [KEq G X.K] [WEq G X.w]
/-- one part -/
theorem one {a : Expr} {ma : En → Hm → Res D} (ha : PE X a (rdE G W ma)) {δ ε : Type} {rel' : Sx → δ → ε → Prop} {k : D → Hm → Res δ} {Q : ε → Hp → Prop} {pins : List (Addr × Obj)} {st : Shared} {σ : St} {s : Sx} {ρ : En}
    (I : Inv X pins σ s.H st) (R : REL G s) (ev : EV G s ρ σ) (p : Post G W σ rel' s ((ma ρ s.h).bind k) Q) {Qf : Value → Shared → Prop}
    (hf : ∀ v st2 s2 x dx, Inv X pins σ s2.H st2 → RelV x v → TR s s2 → REL G s2 → EV G s2 ρ σ → s2.RV G dx x → Post G W σ rel' s2 (k dx s2.h) Q → Qf v st2) :
    wpAny (model X.prog X.w) X.A (eval a X.env) Qf X.xe st := by
  refine thn (ha.run pins st σ s.H _ I ⟨s, ρ, rfl, R, ev, Post.bind p⟩) fun v st2 ⟨x, H1, I1, rx, s1, dx, e, t, R1, rv, p1⟩ => ?_
  subst e
  exact hf v st2 s1 x dx I1 rx t R1 (ev.mono t) rv p1
/-- two parts in a row -/
theorem two {a b : Expr} {ma mb : En → Hm → Res D} (ha : PE X a (rdE G W ma)) (hb : PE X b (rdE G W mb)) {δ ε : Type} {rel' : Sx → δ → ε → Prop} {k : D → D → Hm → Res δ} {Q : ε → Hp → Prop} {pins : List (Addr × Obj)} {st : Shared} {σ : St} {s : Sx} {ρ : En}
    (I : Inv X pins σ s.H st) (R : REL G s) (ev : EV G s ρ σ) (p : Post G W σ rel' s ((ma ρ s.h).bind fun x h => (mb ρ h).bind fun y h => k x y h) Q) {Qf : Value → Value → Shared → Prop}
    (hf : ∀ v u st2 s2 x y dx dy, Inv X pins σ s2.H st2 → RelV x v → RelV y u → TR s s2 → REL G s2 → EV G s2 ρ σ → s2.RV G dx x → s2.RV G dy y → Post G W σ rel' s2 (k dx dy s2.h) Q → Qf v u st2) :
    wpAny (model X.prog X.w) X.A (eval a X.env) (fun v s₁ => wpAny (model X.prog X.w) X.A (eval b X.env) (fun u s₂ => Qf v u s₂) X.xe s₁) X.xe st := by
  refine one ha I R ev p fun v st1 s1 x dx I1 rx t1 R1 ev1 rv p1 => ?_
  refine one hb I1 R1 ev1 p1 fun u st2 s2 y dy I2 ry t2 R2 ev2 rw' p2 => ?_
  exact hf v u st2 s2 x y dx dy I2 rx ry (t1.trans t2) R2 ev2 (RV.mono t2 rv) rw' p2

/-! ### names and constants -/
theorem snd_var {i : Nat} {x : Str} {pos : Pos} (hN : X.N[i]? = some x) (hv : Vis X.env.scope x) (hd : (x == ("__debug__" : Str)) = false) (hcd : (x == ("__classdict__" : Str)) = false) :
    PE X (.Name x pos) (rdE G W fun ρ h => varD ρ i h) :=
  PE.imp (pe_var hN hv hd hcd) fun σ H Q ⟨s, ρ, e, R, ev, p⟩ => by
    subst e
    unfold varD at p
    dsimp only at p
    split at p
    · rename_i d hd
      obtain ⟨v, h1, h2⟩ := ev.at_ i d hd
      exact ⟨v, h1, p.now R h2⟩
    · exact p.elim
theorem snd_con {c : Cst} {k : Nat} {pos : Pos} {kc : Const} (hk : kc = match c with | .non => .none | .bl b => .bool b | .int i => .int i | .str x => .str x) : PE X (.Constant kc k pos) (rdE G W fun _ h => .ok c.d h) := by
  subst hk
  cases c with
  | non => exact PE.imp pe_non fun σ H Q ⟨s, ρ, e, R, ev, p⟩ => by subst e; exact p.now R rfl
  | bl b => exact PE.imp pe_bl fun σ H Q ⟨s, ρ, e, R, ev, p⟩ => by subst e; exact p.now R rfl
  | int b => exact PE.imp pe_int fun σ H Q ⟨s, ρ, e, R, ev, p⟩ => by subst e; exact p.now R rfl
  | str b => exact PE.imp pe_str fun σ H Q ⟨s, ρ, e, R, ev, p⟩ => by subst e; exact p.now R rfl
theorem snd_glob {x : Str} {i : Int} {tk : Tok} {pos : Pos} (hg : Gl X x) (hm : X.mg x = some (.int i tk)) (hd : (x == ("__debug__" : Str)) = false) : PE X (.Name x pos) (rdE G W fun _ h => .ok (.int i) h) :=
  PE.imp (pe_glob (v := .int i) hg hm ⟨_, rfl⟩ hd) fun σ H Q ⟨s, ρ, e, R, ev, p⟩ => by subst e; exact p.now R rfl
theorem snd_globT {x y : Str} {v : Value} {pos : Pos} (hg : Gl X x) (hm : X.mg x = some v) (hv : RelV (.str y) v) (hd : (x == ("__debug__" : Str)) = false) : PE X (.Name x pos) (rdE G W fun _ h => .ok (.str y) h) :=
  PE.imp (pe_glob (v := .str y) hg hm hv hd) fun σ H Q ⟨s, ρ, e, R, ev, p⟩ => by subst e; exact p.now R rfl

/-! ### what is laid -/
section
variable {s : Sx} {σ : St} {Q : VK} {p : Addr}
theorem lay_tup {xs : List D} {us : List V} (R : REL G s) (hp : s.H p = none) (r : s.RVs G xs us) (q : Post G W σ (rV G) s (.ok (.tup xs) s.h) Q) : Q (.ref p) (upd s.H p (.tup us)) := by
  have t := TR.lay (o := .tup us) R hp
  exact q.at (s.lay p (.tup us)) rfl t (R.lay hp) ⟨p, us, rfl, .inl upd_same, fun h => R.fresh hp h, RVs.mono t r⟩
theorem lay_lst {mk : Bool} {xs : List D} {us : List V} (R : REL G s) (hp : s.H p = none) (r : s.RVs G xs us) (q : Post G W σ (rV G) s (newL mk xs s.h) Q) : Q (.ref p) (upd s.H p (.lst us)) := by
  unfold newL at q
  by_cases hz : xs.length ≤ big
  · rw [if_pos hz] at q
    cases mk with
    | true =>
      rw [if_pos rfl] at q
      have t := TR.push (nd := .lst xs) (o := .lst us) R hp
      exact q.at (s.push p (.lst xs) (.lst us)) rfl t (R.push hp ⟨us, upd_same, RVs.mono t r⟩) ⟨p, rfl, if_pos rfl⟩
    | false =>
      rw [if_neg Bool.false_ne_true] at q
      have t := TR.lay (o := .lst us) R hp
      exact q.at (s.lay p (.lst us)) rfl t (R.lay hp) ⟨p, us, rfl, .inl upd_same, fun h => R.fresh hp h, RVs.mono t r⟩
  · rw [if_neg hz] at q
    exact q.elim
theorem newL_big {mk : Bool} {xs : List D} {h : Hm} (q : Post G W σ (rV G) s (newL mk xs h) Q) : xs.length ≤ big := by
  unfold newL at q
  by_cases hz : xs.length ≤ big
  · exact hz
  · rw [if_neg hz] at q
    exact q.elim
/-- a list that is read -/
theorem getL_rd (K : PySem.W.Frag) [KEq G K] {d : D} {v : V} {xs : List D} (R : REL G s) (r : s.RV G d v) (e : getL s.h d = some xs) : ∃ p us, v = .ref p ∧ SqL K s.H p us ∧ s.RVs G xs us := by
  cases d with
  | lst ys =>
    obtain ⟨p, us, rfl, h, _, q⟩ := r
    cases e
    exact ⟨p, us, rfl, .inl h, q⟩
  | scr ys =>
    obtain ⟨p, us, rfl, h, q⟩ := r
    cases e
    exact ⟨p, us, rfl, h.elim (fun h => .inl h.1) Gx.sq, q⟩
  | ref n =>
    obtain ⟨p, rfl, a⟩ := r
    unfold getL at e
    dsimp only at e
    split at e
    · rename_i ys hn
      cases e
      obtain ⟨us, h1, h2⟩ := R.node n _ p hn a
      exact ⟨p, us, rfl, SqL.of h1, h2⟩
    · cases e
  | _ => cases e
theorem getW_rd {d : D} {v : V} {xs : List D} (R : REL G s) (r : s.RV G d v) (e : getW s.h d = some xs) : ∃ p us, v = .ref p ∧ Rd s.H p (.lst us) ∧ s.RVs G xs us := by
  cases d with
  | lst ys =>
    obtain ⟨p, us, rfl, h, _, q⟩ := r
    cases e
    exact ⟨p, us, rfl, h, q⟩
  | ref n =>
    obtain ⟨p, rfl, a⟩ := r
    unfold getW getL at e
    dsimp only at e
    split at e
    · rename_i ys hn
      cases e
      obtain ⟨us, h1, h2⟩ := R.node n _ p hn a
      exact ⟨p, us, rfl, .inl h1, h2⟩
    · cases e
  | _ => cases e
/-- a list or tuple that is read -/
theorem getS_rd {d : D} {v : V} {xs : List D} (K : PySem.W.Frag) [KEq G K] (R : REL G s) (r : s.RV G d v) (e : getS s.h d = some xs) : ∃ p us, v = .ref p ∧ (SqL K s.H p us ∨ SqT K s.H p us) ∧ s.RVs G xs us := by
  cases d with
  | tup ys =>
    obtain ⟨p, us, rfl, h, _, q⟩ := r
    cases e
    exact ⟨p, us, rfl, .inr (.inl h), q⟩
  | lst _ =>
    obtain ⟨p, us, e1, h, q⟩ := getL_rd K R r e
    exact ⟨p, us, e1, .inl h, q⟩
  | scr _ =>
    obtain ⟨p, us, e1, h, q⟩ := getL_rd K R r e
    exact ⟨p, us, e1, .inl h, q⟩
  | ref _ =>
    obtain ⟨p, us, e1, h, q⟩ := getL_rd K R r e
    exact ⟨p, us, e1, .inl h, q⟩
  | _ => cases e
end

/-! ### operators -/
theorem rdl {pins : List (Addr × Obj)} {s : Shared} {σ : L2.St} {H : Hp} {l : Addr} {xs : List V} (I : Inv X pins σ H s) (h : Rd H l (.lst xs)) :
    xs.length ≤ sizeLine ∧ ∃ (its : List Value) (n : Nat), Vals xs its ∧ xs.length = its.length ∧ s.heap.get? l = some { cls := .type "list", data := .seq its.toArray n } := by
  obtain ⟨z, its, n, r, e⟩ := h.ok I.hok
  exact ⟨z, its, n, r, r.length, e⟩
/-- list + list, whatever they lie in -/
theorem op_catS : OpR X (binaryOp .Add) (fun x y H Q => ∃ l b xs zs, x = .ref l ∧ y = .ref b ∧ Rd H l (.lst xs) ∧ Rd H b (.lst zs) ∧ xs.length + zs.length ≤ sizeLine ∧ ∀ p, H p = none → Q (.ref p) (upd H p (.lst (xs ++ zs)))) := by
  intro pins s σ H x y v u Q I rx ry h
  obtain ⟨l, b, xs, zs, rfl, rfl, hH, hB, hz, q⟩ := h
  cases rx
  cases ry
  obtain ⟨z, its, n, r, hl, e⟩ := rdl I hH
  obtain ⟨z2, its2, n2, r2, hl2, e2⟩ := rdl I hB
  refine PySem.P.add_list e e2 ?_ (by rw [List.size_toArray, List.size_toArray]; omega)
  have ea : its.toArray ++ its2.toArray = (its ++ its2).toArray := by simp
  rw [ea]
  exact ⟨.ref _, _, I.lnew (t' := s.toks) (r.append r2) (by rw [List.length_append]; omega), rfl, q _ I.fresh⟩
theorem op_repS : OpR X (binaryOp .Mult) (fun x y H Q => ∃ l k xs, x = .ref l ∧ y = .int k ∧ Rd H l (.lst xs) ∧ -(2 ^ 63) ≤ k ∧ k < 2 ^ 63 ∧ xs.length * k.toNat ≤ sizeLine ∧
    ∀ p, H p = none → Q (.ref p) (upd H p (.lst (List.replicate k.toNat xs).flatten))) := by
  intro pins s σ H x y v u Q I rx ry h
  obtain ⟨l, k, xs, rfl, rfl, hH, h1, h2, hz, q⟩ := h
  rcases hH with hH | ⟨o, hH⟩
  · exact op_rep pins s σ H _ _ v u Q I rx ry ⟨l, k, xs, rfl, rfl, hH, h1, h2, hz, q⟩
  · -- the object is the same, whether it is frozen or not
    have I2 : ObjOk X.prog X.w H s.heap l (.lst xs) := (Rd.ok (.inr ⟨o, hH⟩) I.hok)
    cases rx
    obtain ⟨t, rfl⟩ := ry
    obtain ⟨z, its, n, r, e⟩ := I2
    have hl := r.length
    have hlen : its.toArray.size * k.toNat ≤ sizeLine := by rw [List.size_toArray, ← hl]; exact hz
    have hcap : ¬ its.toArray.size * k.toNat > (2 ^ 63 - 1) / 8 := by
      have : (sizeLine : Nat) ≤ (2 ^ 63 - 1) / 8 := by decide
      omega
    have hfit : ¬ (!Builtin.List.listFitsIndex k) = true := by
      rw [fitsIndex_both h1 h2]
      exact Bool.false_ne_true
    have hlong : ¬ Builtin.List.listTooLong (its.toArray.size * k.toNat) = true := by
      rw [notLongL hlen]
      exact Bool.false_ne_true
    have hnew : List.foldl (fun x1 x2 => x1 ++ x2) #[] (List.replicate (if its.toArray.isEmpty = true then 0 else k.toNat) its.toArray) = (List.replicate k.toNat its).flatten.toArray := by
      have f0 : ∀ m : Nat, List.foldl (fun x1 x2 => x1 ++ x2) #[] (List.replicate m its.toArray) = (List.replicate m its).flatten.toArray := fun m => by
        have := foldl_rep its m []
        rw [List.nil_append] at this
        exact this
      rw [f0]
      cases its with
      | nil => simp
      | cons a r' => rw [if_neg (by simp)]
    refine wpAny_binaryOp_repeat_ref (T := "list") (U := "int") (by decide) ⟨_, e, rfl⟩ (fun s' => typeIs_int s' k t) noFill_list_mul F.fills_int_mul F.slot_int_rmul repeat_list F.slot_int_index.lookup
      (call_meets F.slot_int_rmul (typeIs_int s k t) F.entry_int_rmul (F.args_int_rmul_2 _ _) (int___rmul___int_list k t l its.toArray n)
        ⟨e, rfl, ⟨_, e, rfl⟩, call_meets F.slot_list_mul ⟨_, e, rfl⟩ F.entry_list_mul (F.args_list_mul_2 _ _) (AutoListH.list___mul___list_int_3 l its.toArray n k t hfit hcap hlong) ⟨e, ?_⟩⟩)
    rw [hnew]
    exact ⟨.ref _, _, I.lnew (t' := s.toks) (r.rep k.toNat) (by rw [PyProof.Rows.lm_len_rep_flat, Nat.mul_comm]; exact hz), rfl, q _ I.fresh⟩

def Bop.op : Bop → Operator
  | .add => .Add | .sub => .Sub | .mul => .Mult | .fdiv => .FloorDiv | .mod => .Mod | .pow => .Pow
  | .shl => .LShift | .shr => .RShift | .band => .BitAnd | .bor => .BitOr | .bxor => .BitXor

theorem opB_ok {op : Bop} {mk : Bool} {pins : List (Addr × Obj)} {st : Shared} {σ : L2.St} {s : Sx} {x y : V} {dx dy : D} {v u : Value} {Q : VK} (I : Inv X pins σ s.H st) (rx : RelV x v) (ry : RelV y u) (R : REL G s)
    (qx : s.RV G dx x) (qy : s.RV G dy y) (p : Post G W σ (rV G) s (opB op mk dx dy s.h) Q) : wpAny (model X.prog X.w) X.A (binaryOp op.op v u) (EP X pins σ Q) X.xe st := by
  have hI : ∀ {f : Value → Value → Sem Value} {r : R2}, OpR X f r → r x y s.H Q → wpAny (model X.prog X.w) X.A (f v u) (EP X pins σ Q) X.xe st := fun o q => o pins st σ s.H x y v u Q I rx ry q
  unfold opB at p
  split at p
  · -- ints
    rename_i i j
    cases (show x = .int i from qx)
    cases (show y = .int j from qy)
    cases op with
    | add => exact hI op_add ⟨i, j, rfl, rfl, p.now R rfl⟩
    | sub => exact hI op_sub ⟨i, j, rfl, rfl, p.now R rfl⟩
    | mul =>
      dsimp only at p
      split at p
      · rename_i hc; exact hI op_mulX ⟨i, j, rfl, rfl, hc, p.now R rfl⟩
      · exact p.elim
    | fdiv =>
      dsimp only at p
      split at p
      · rename_i hc; exact hI op_fdivW ⟨i, j, rfl, rfl, hc, p.now R rfl⟩
      · exact p.elim
    | mod =>
      dsimp only at p
      split at p
      · rename_i hc; exact hI op_mod ⟨i, j, rfl, rfl, hc, p.now R rfl⟩
      · exact p.elim
    | pow =>
      dsimp only at p
      split at p
      · rename_i hc; exact hI op_pow ⟨i, j, rfl, rfl, hc, p.now R rfl⟩
      · exact p.elim
    | shl =>
      dsimp only at p
      split at p
      · rename_i hc; exact hI op_shl ⟨i, j, rfl, rfl, hc, p.now R rfl⟩
      · exact p.elim
    | shr =>
      dsimp only at p
      split at p
      · rename_i hc; exact hI op_shr ⟨i, j, rfl, rfl, hc, p.now R rfl⟩
      · exact p.elim
    | band => exact hI op_and ⟨i, j, rfl, rfl, p.now R rfl⟩
    | bor => exact hI op_or ⟨i, j, rfl, rfl, p.now R rfl⟩
    | bxor => exact hI op_xor ⟨i, j, rfl, rfl, p.now R rfl⟩
  · -- texts
    rename_i a b
    cases (show x = .str a from qx)
    cases (show y = .str b from qy)
    cases op with
    | add =>
      dsimp only at p
      split at p
      · rename_i hc; exact hI op_add_str ⟨a, b, rfl, rfl, by rw [big_eq]; exact hc, p.now R rfl⟩
      · exact p.elim
    | _ => exact p.elim
  · -- tuples
    rename_i a b
    obtain ⟨l1, us, rfl, h1, k1, r1⟩ := qx
    obtain ⟨l2, ws, rfl, h2, k2, r2⟩ := qy
    cases op with
    | add =>
      dsimp only at p
      split at p
      · rename_i hc
        have e1 := RVs.length r1
        have e2 := RVs.length r2
        refine hI op_catA ⟨l1, l2, us, ws, rfl, rfl, .inl h1, .inl h2, by rw [big_eq, ← e1, ← e2]; exact hc, fun e => ?_, fun _ e => ?_, fun _ _ q hq => lay_tup R hq (RVs.append r1 r2) p⟩
        · subst e
          have ea : a = [] := List.eq_nil_of_length_eq_zero e1
          subst ea
          exact p.now R ⟨l2, ws, rfl, h2, k2, r2⟩
        · subst e
          have ea : b = [] := List.eq_nil_of_length_eq_zero e2
          subst ea
          rw [List.append_nil] at p
          exact p.now R ⟨l1, us, rfl, h1, k1, r1⟩
      · exact p.elim
    | _ => exact p.elim
  · -- a tuple many times
    rename_i a k
    obtain ⟨l1, us, rfl, h1, k1, r1⟩ := qx
    cases (show y = .int k from qy)
    cases op with
    | mul =>
      dsimp only at p
      split at p
      · rename_i hc
        obtain ⟨c0, c1, c2, c3⟩ := hc
        have e1 := RVs.length r1
        refine hI op_repT ⟨l1, k, us, rfl, rfl, .inl h1, fun e => ?_, c1, c2, by rw [← e1]; exact c3, fun q hq => lay_tup R hq (RVs.replicate r1 _) p⟩
        rw [e] at e1
        exact c0 (List.eq_nil_of_length_eq_zero e1)
      · split at p
        · rename_i hc
          obtain ⟨c0, c1⟩ := hc
          have e1 := RVs.length r1
          refine hI op_repT0 ⟨l1, k, us, rfl, rfl, .inl h1, fun e => ?_, c1, fun q hq => lay_tup R hq (xs := []) (us := []) rfl p⟩
          rw [e] at e1
          exact c0 (List.eq_nil_of_length_eq_zero e1)
        · exact p.elim
    | _ => exact p.elim
  · -- a list many times
    rename_i d k _ _
    split at p
    · rename_i a _ ha
      obtain ⟨l1, us, rfl, h1, r1⟩ := getW_rd R qx ha
      cases (show y = .int k from qy)
      split at p
      · rename_i hc
        obtain ⟨c0, c1, c2⟩ := hc
        have e1 := RVs.length r1
        exact hI op_repS ⟨l1, k, us, rfl, rfl, h1, c0, c1, by rw [big_eq, ← e1]; exact c2, fun q hq => lay_lst R hq (RVs.replicate r1 _) p⟩
      · exact p.elim
    · exact p.elim
  · split at p
    · rename_i a b _ ha hb
      obtain ⟨l1, us, rfl, h1, r1⟩ := getW_rd R qx ha
      obtain ⟨l2, ws, rfl, h2, r2⟩ := getW_rd R qy hb
      have hz := newL_big p
      rw [List.length_append] at hz
      exact hI op_catS ⟨l1, l2, us, ws, rfl, rfl, h1, h2, by rw [big_eq, ← RVs.length r1, ← RVs.length r2]; exact hz, fun q hq => lay_lst R hq (RVs.append r1 r2) p⟩
    · exact p.elim
theorem snd_bin {op : Bop} {mk : Bool} {a b : Expr} {pos : Pos} {ma mb : En → Hm → Res D} (ha : PE X a (rdE G W ma)) (hb : PE X b (rdE G W mb)) :
    PE X (.BinOp a op.op b pos) (rdE G W fun ρ h => (ma ρ h).bind fun x h => (mb ρ h).bind fun y h => opB op mk x y h) := by
  refine ⟨fun pins st σ H Q I ⟨s, ρ, e, R, ev, p⟩ => ?_⟩
  subst e
  exact wpAny_BinOp (two ha hb I R ev p fun v u st2 s2 x y dx dy I2 rx ry _ R2 _ qx qy p2 => opB_ok I2 rx ry R2 qx qy p2)
theorem snd_neg {a : Expr} {pos : Pos} {ma : En → Hm → Res D} (ha : PE X a (rdE G W ma)) : PE X (.UnaryOp .USub a pos) (rdE G W fun ρ h => (ma ρ h).bind negD) := by
  refine ⟨fun pins st σ H Q I ⟨s, ρ, e, R, ev, p⟩ => ?_⟩
  subst e
  refine PyProof.Rows.UnaryOp_ (one ha I R ev p fun v st2 s2 x dx I2 rx _ R2 _ qx p2 => ?_)
  unfold negD at p2
  split at p2
  · rename_i i
    exact un_neg pins st2 σ s2.H x v Q I2 rx ⟨i, qx, p2.now R2 rfl⟩
  · exact p2.elim
theorem snd_inv {a : Expr} {pos : Pos} {ma : En → Hm → Res D} (ha : PE X a (rdE G W ma)) : PE X (.UnaryOp .Invert a pos) (rdE G W fun ρ h => (ma ρ h).bind invD) := by
  refine ⟨fun pins st σ H Q I ⟨s, ρ, e, R, ev, p⟩ => ?_⟩
  subst e
  refine PyProof.Rows.UnaryOp_ (one ha I R ev p fun v st2 s2 x dx I2 rx _ R2 _ qx p2 => ?_)
  unfold invD at p2
  split at p2
  · rename_i i
    exact un_inv pins st2 σ s2.H x v Q I2 rx ⟨i, qx, p2.now R2 rfl⟩
  · exact p2.elim
end
end L2.Mini
set_option Elab.async false
set_option linter.all false
set_option maxRecDepth 100000
set_option maxHeartbeats 1000000
/-! Mini, part 5: comparisons, tests, displays, subscripts, slices, attributes. -/
namespace L2.Mini
open PySem PySem.Spec PyProof.Rows

/-! ### data that is read -/
section
variable {G : Gx} {s : Sx}
mutual
theorem viewP_dp (K : PySem.W.Frag) [KEq G K] {f : Nat → Option PyData} (hf : ∀ n p d, s.am n = some p → f n = some d → Dp K s.H (.ref p) d) : ∀ {d : D} {v : V} {pd : PyData}, s.RV G d v → viewP f d = some pd → Dp K s.H v pd
  | .non, _, _, r, e => by cases (show _ = V.non from r); cases e; exact .non
  | .bl b, _, _, r, e => by cases (show _ = V.bl b from r); cases e; exact .bl b
  | .int i, _, _, r, e => by cases (show _ = V.int i from r); cases e; exact .int i
  | .str x, _, _, r, e => by cases (show _ = V.str x from r); cases e; exact .str x
  | .tup xs, _, _, ⟨p, us, e1, h, _, q⟩, e => by
    subst e1
    unfold viewP at e
    cases e2 : viewPs f xs with
    | none => rw [e2] at e; cases e
    | some ds =>
      rw [e2] at e; cases e
      exact .tup (.inl h) (viewPs_dp K hf q e2)
  | .lst xs, _, _, ⟨p, us, e1, h, _, q⟩, e => by
    subst e1
    unfold viewP at e
    cases e2 : viewPs f xs with
    | none => rw [e2] at e; cases e
    | some ds =>
      rw [e2] at e; cases e
      exact .lst (.inl h) (viewPs_dp K hf q e2)
  | .scr xs, _, _, ⟨p, us, e1, h, q⟩, e => by
    subst e1
    unfold viewP at e
    cases e2 : viewPs f xs with
    | none => rw [e2] at e; cases e
    | some ds =>
      rw [e2] at e; cases e
      exact .lst (h.elim (fun h => .inl h.1) Gx.sq) (viewPs_dp K hf q e2)
  | .ref n, _, _, ⟨p, e1, a⟩, e => by subst e1; exact hf n p _ a e
  | .ins _ _, _, _, _, e => by cases e
theorem viewPs_dp (K : PySem.W.Frag) [KEq G K] {f : Nat → Option PyData} (hf : ∀ n p d, s.am n = some p → f n = some d → Dp K s.H (.ref p) d) : ∀ {d : List D} {v : List V} {pd : List PyData}, s.RVs G d v → viewPs f d = some pd → DpAll K s.H v pd
  | [], _, _, r, e => by cases (show _ = [] from r); cases e; exact .nil
  | x :: xs, _, _, ⟨u, r, e1, a, b⟩, e => by
    subst e1
    unfold viewPs at e
    split at e
    · rename_i d ds h1 h2
      cases e
      exact .cons (viewP_dp K hf a h1) (viewPs_dp K hf b h2)
    · cases e
end
theorem look_dp (K : PySem.W.Frag) [KEq G K] (R : REL G s) : ∀ (k n : Nat) (p : Addr) (d : PyData), s.am n = some p → look s.h k n = some d → Dp K s.H (.ref p) d
  | 0, _, _, _, _, e => by cases e
  | k + 1, n, p, d, a, e => by
    unfold look at e
    split at e
    · rename_i xs hn
      obtain ⟨us, h1, h2⟩ := R.node n _ p hn a
      cases e2 : viewPs (look s.h k) xs with
      | none => rw [e2] at e; cases e
      | some ds =>
        rw [e2] at e; cases e
        exact .lst (SqL.of h1) (viewPs_dp K (look_dp K R k) h2 e2)
    · cases e
theorem view_dp (K : PySem.W.Frag) [KEq G K] (R : REL G s) {d : D} {v : V} {pd : PyData} (r : s.RV G d v) (e : view s.h d = some pd) : Dp K s.H v pd := viewP_dp K (look_dp K R 3) r e
end

section
variable {G : Gx} {W : WX} {X : Cx} [KEq G X.K] [WEq G X.w]
def Cop.op : Cop → CmpOp
  | .eq => .Eq | .ne => .NotEq | .lt => .Lt | .le => .LtE | .gt => .Gt | .ge => .GtE | .isN => .Is | .notN => .IsNot | .inn => .In | .notin => .NotIn

theorem opC_ok (hu : X.A.units + 65 < cLine) {op : Cop} {pins : List (Addr × Obj)} {st : Shared} {σ : St} {s : Sx} {x y : V} {dx dy : D} {v u : Value} {Q : VK} (I : Inv X pins σ s.H st) (rx : RelV x v) (ry : RelV y u) (R : REL G s)
    (qx : s.RV G dx x) (qy : s.RV G dy y) (p : Post G W σ (rV G) s (opC op dx dy s.h) Q) : wpAny (model X.prog X.w) X.A (compareOp op.op v u) (EP X pins σ Q) X.xe st := by
  have hI : ∀ {f : Value → Value → Sem Value} {r : R2}, OpR X f r → r x y s.H Q → wpAny (model X.prog X.w) X.A (f v u) (EP X pins σ Q) X.xe st := fun o q => o pins st σ s.H x y v u Q I rx ry q
  have hu' : X.A.units + 64 < cLine := by omega
  have hin : ∀ {neg : Bool}, Post G W σ (rV G) s (opC.inL dx dy s.h neg) Q → wpAny (model X.prog X.w) X.A (compareOp (if neg then CmpOp.NotIn else CmpOp.In) v u) (EP X pins σ Q) X.xe st := by
    clear p
    intro neg p
    unfold opC.inL at p
    split at p
    · rename_i d _ hd
      split at p
      · rename_i ds hds
        split at p
        · rename_i hs
          obtain ⟨hs1, hs2⟩ := Bool.and_eq_true_iff.mp hs
          cases neg with
          | false => exact hI (op_inD hu) ⟨d, ds, view_dp X.K R qx hd, view_dp X.K R qy hds, hs1, hs2, by simpa using p.now R rfl⟩
          | true => exact hI (op_notInD hu) ⟨d, ds, view_dp X.K R qx hd, view_dp X.K R qy hds, hs1, hs2, by simpa using p.now R rfl⟩
        · exact p.elim
      · exact p.elim
    · exact p.elim
  have hin2 : ∀ {neg : Bool}, Post G W σ (rV G) s (opC.inD dx dy s.h neg) Q → wpAny (model X.prog X.w) X.A (compareOp (if neg then CmpOp.NotIn else CmpOp.In) v u) (EP X pins σ Q) X.xe st := by
    clear p
    intro neg p
    unfold opC.inD at p
    split at p
    · rename_i a b
      cases (show x = .str a from qx)
      cases (show y = .str b from qy)
      cases neg with
      | false => exact hI op_in_str ⟨a, b, rfl, rfl, by simpa using p.now R rfl⟩
      | true => exact hI op_notIn_str ⟨a, b, rfl, rfl, by simpa using p.now R rfl⟩
    · rename_i n
      split at p
      · rename_i kvs hn
        -- a dict
        obtain ⟨q, rfl, a⟩ := qy
        obtain ⟨us, h1, h2⟩ := R.node n _ q hn a
        split at p
        · rename_i hk
          obtain ⟨k, hk⟩ := keyK_of hk
          cases keyK_rv hk qx
          have g : DGet s.H q (kV k) (valV us k) := .k h1
          have e : (valV us k).isSome = (dget kvs dx).isSome := by
            have := RKs.get hk h2
            cases h3 : valV us k <;> cases h4 : dget kvs dx <;> rw [h3, h4] at this <;> first | rfl | exact this.elim
          rw [← e] at p
          cases (show u = Value.ref q from ry)
          cases neg with
          | false => exact d_in (by omega) I g rx fun s3 I3 => ⟨.bl (valV us k).isSome, s.H, I3, rfl, by simpa using p.now R rfl⟩
          | true => exact d_notIn (by omega) I g rx fun s3 I3 => ⟨.bl (!(valV us k).isSome), s.H, I3, rfl, by simpa using p.now R rfl⟩
        · exact p.elim
      · rename_i kvs hn
        -- a dict with tuples as keys
        obtain ⟨q, rfl, a⟩ := qy
        obtain ⟨us, h1, h2, nd, _⟩ := R.node n _ q hn a
        split at p
        · rename_i hk
          obtain ⟨xs, k, rfl, hk, kd⟩ := isTK_nk hk
          obtain ⟨p0, ws, rfl, _⟩ := id qx
          cases (show v = Value.ref p0 from rx)
          cases (show u = Value.ref q from ry)
          obtain ⟨hd, dd⟩ := dit_of (P := X.prog) I.hok (WEq.eq (G := G) (w := X.w)) (.inl h1) h2 nd
          have e : (atKey us k).isSome = (dget kvs (.tup xs)).isSome := by rw [dget_any, RTs.any hk h2]
          rw [← e] at p
          have hr : (nestedKind X.prog X.w).room X.A.in1 := by show X.A.units + 1 + 8 < cLine; omega
          cases neg with
          | false => exact wpAny_in_heap hr ⟨nested_of I.hok qx rfl hk, kd⟩ hd dd ⟨.bl (atKey us k).isSome, s.H, I.tok _, rfl, by simpa using p.now R rfl⟩
          | true => exact wpAny_notIn_heap hr ⟨nested_of I.hok qx rfl hk, kd⟩ hd dd ⟨.bl (!(atKey us k).isSome), s.H, I.tok _, rfl, by simpa using p.now R rfl⟩
        · exact p.elim
      · exact hin p
    · exact hin p
  unfold opC at p
  cases op with
  | eq =>
    dsimp only at p
    split at p
    · rename_i b hb
      unfold eqD at hb
      split at hb
      · rename_i dx' dy' h1 h2
        split at hb
        · rename_i hs
          obtain ⟨hs1, hs2⟩ := Bool.and_eq_true_iff.mp hs
          cases hb
          exact hI (op_eqD hu') ⟨dx', dy', view_dp X.K R qx h1, view_dp X.K R qy h2, hs1, hs2, p.now R rfl⟩
        · cases hb
      · cases hb
    · exact p.elim
  | ne =>
    dsimp only at p
    split at p
    · rename_i b hb
      unfold eqD at hb
      split at hb
      · rename_i dx' dy' h1 h2
        split at hb
        · rename_i hs
          obtain ⟨hs1, hs2⟩ := Bool.and_eq_true_iff.mp hs
          cases hb
          exact hI (op_neD hu') ⟨dx', dy', view_dp X.K R qx h1, view_dp X.K R qy h2, hs1, hs2, p.now R rfl⟩
        · cases hb
      · cases hb
    · exact p.elim
  | lt =>
    dsimp only at p
    split at p
    · rename_i i j
      exact hI op_lt ⟨i, j, qx, qy, p.now R rfl⟩
    · exact p.elim
  | le =>
    dsimp only at p
    split at p
    · rename_i i j
      exact hI op_le ⟨i, j, qx, qy, p.now R rfl⟩
    · exact p.elim
  | gt =>
    dsimp only at p
    split at p
    · rename_i i j
      exact hI op_gt ⟨i, j, qx, qy, p.now R rfl⟩
    · exact p.elim
  | ge =>
    dsimp only at p
    split at p
    · rename_i i j
      exact hI op_ge ⟨i, j, qx, qy, p.now R rfl⟩
    · exact p.elim
  | isN =>
    dsimp only at p
    split at p
    · refine hI op_isN ⟨qy, ?_⟩
      have e : decide (x = V.non) = decide (dx = D.non) := non_iff qx
      rw [e]
      exact p.now R rfl
    · exact p.elim
  | notN =>
    dsimp only at p
    split at p
    · refine hI op_notN ⟨qy, ?_⟩
      have e : decide (x = V.non) = decide (dx = D.non) := non_iff qx
      rw [e]
      exact p.now R rfl
    · exact p.elim
  | inn => exact hin2 (neg := false) p
  | notin => exact hin2 (neg := true) p
where
  non_iff {G : Gx} {s : Sx} {d : D} {x : V} (q : s.RV G d x) : decide (x = V.non) = decide (d = D.non) := by
    cases d with
    | non => cases (show x = V.non from q); simp
    | bl b => cases (show x = V.bl b from q); simp
    | int b => cases (show x = V.int b from q); simp
    | str b => cases (show x = V.str b from q); simp
    | tup b => obtain ⟨p, us, e, _⟩ := q; subst e; simp
    | lst b => obtain ⟨p, us, e, _⟩ := q; subst e; simp
    | scr b => obtain ⟨p, us, e, _⟩ := q; subst e; simp
    | ref b => obtain ⟨p, e, _⟩ := q; subst e; simp
    | ins c b => obtain ⟨p, us, dx, e, _⟩ := q; subst e; simp
theorem snd_cmp (hu : X.A.units + 65 < cLine) {op : Cop} {a b : Expr} {pos : Pos} {ma mb : En → Hm → Res D} (ha : PE X a (rdE G W ma)) (hb : PE X b (rdE G W mb)) (hm : behindInMarks op.op b = false) :
    PE X (.Compare a [op.op] [b] pos) (rdE G W fun ρ h => (ma ρ h).bind fun x h => (mb ρ h).bind fun y h => opC op x y h) := by
  refine ⟨fun pins st σ H Q I ⟨s, ρ, e, R, ev, p⟩ => ?_⟩
  subst e
  exact wpAny_Compare1 (two ha hb I R ev p fun v u st2 s2 x y dx dy I2 rx ry _ R2 _ qx qy p2 => opC_ok hu I2 rx ry R2 qx qy p2) hm
/-- a value as a test -/
def tst (m : En → Hm → Res D) : En → Hm → Res Bool := fun ρ h => (m ρ h).bind asB
theorem Post.bl {s : Sx} {σ : St} {x : V} {dx : D} {Q : Bool → Hp → Prop} (R : REL G s) (q : s.RV G dx x) (p : Post G W σ rB s (asB dx s.h) Q) : ∃ b, dx = .bl b ∧ x = .bl b ∧ Q b s.H := by
  cases dx with
  | bl b => exact ⟨b, rfl, q, p.now R rfl⟩
  | _ => exact p.elim
theorem snd_tst {e : Expr} {m : En → Hm → Res D} (h : PE X e (rdE G W m)) (he : ∀ whole, isTrue e X.env whole = (do let v ← whole; standAt e.pos; holding [v] (truthy v))) : PT X e (rdT G W (tst m)) := by
  refine ⟨fun pins st σ H Q I ⟨s, ρ, e1, R, ev, p⟩ => ?_⟩
  subst e1
  refine isTrue_plain (one h I R ev p fun v st2 s2 x dx I2 rx _ R2 _ q p2 => ?_) (he _)
  obtain ⟨b, rfl, rfl, q2⟩ := Post.bl R2 q p2
  cases rx
  exact wpAny_truthy_bool ⟨_, I2, q2⟩
theorem snd_tst_cmp (hu : X.A.units + 65 < cLine) {op : Cop} {a b : Expr} {pos : Pos} {ma mb : En → Hm → Res D} (ha : PE X a (rdE G W ma)) (hb : PE X b (rdE G W mb)) (hm : behindInMarks op.op b = false) :
    PT X (.Compare a [op.op] [b] pos) (rdT G W (tst fun ρ h => (ma ρ h).bind fun x h => (mb ρ h).bind fun y h => opC op x y h)) := by
  refine ⟨fun pins st σ H Q I ⟨s, ρ, e1, R, ev, p⟩ => ?_⟩
  subst e1
  have p' : Post G W σ rB s ((ma ρ s.h).bind fun x h => (mb ρ h).bind fun y h => (opC op x y h).bind asB) Q := by
    unfold tst at p
    rw [bind_assoc] at p
    simpa only [bind_assoc] using p
  refine wpAny_isTrue_Compare1 (two ha hb I R ev p' fun v u st2 s2 x y dx dy I2 rx ry _ R2 _ qx qy p2 => ?_) hm
  refine thn (opC_ok hu I2 rx ry R2 qx qy (Post.bind p2)) fun c st3 ⟨z, H3, I3, rz, s3, dz, e3, t3, R3, q3, p3⟩ => ?_
  subst e3
  obtain ⟨b, rfl, rfl, q4⟩ := Post.bl R3 q3 p3
  cases rz
  exact wpAny_truthy_bool ⟨_, I3, q4⟩
where
  bind_assoc {α β γ : Type} {r : Res α} {k : α → Hm → Res β} {l : β → Hm → Res γ} : (r.bind k).bind l = r.bind fun a h => (k a h).bind l := by
    cases r <;> rfl

theorem Post.if_ {s : Sx} {σ : St} {β γ : Type} {rel : Sx → β → γ → Prop} {x : V} {dx : D} {a b : Res β} {Q : γ → Hp → Prop} (q : s.RV G dx x) (p : Post G W σ rel s (ifD dx a b) Q) : ∃ c, dx = .bl c ∧ x = .bl c ∧ Post G W σ rel s (if c then a else b) Q := by
  cases dx with
  | bl c =>
    refine ⟨c, rfl, q, ?_⟩
    cases c <;> exact p
  | _ => exact p.elim
theorem snd_chain (hu : X.A.units + 65 < cLine) {o1 o2 : Cop} {a b c : Expr} {pos : Pos} {ma mb mc : En → Hm → Res D} (ha : PE X a (rdE G W ma)) (hb : PE X b (rdE G W mb)) (hc : PE X c (rdE G W mc)) (hm : lastMarks [o1.op, o2.op] [b, c] = false) :
    PE X (.Compare a [o1.op, o2.op] [b, c] pos) (rdE G W fun ρ h => (ma ρ h).bind fun x h => (mb ρ h).bind fun y h => (opC o1 x y h).bind fun z h => ifD z ((mc ρ h).bind fun w h => opC o2 y w h) (.ok (.bl false) h)) := by
  refine ⟨fun pins st σ H Q I ⟨s, ρ, e, R, ev, p⟩ => ?_⟩
  subst e
  refine Compare_chain (one ha I R ev p fun v st1 s1 x dx I1 rx _ R1 ev1 qx p1 => chain_link (one hb I1 R1 ev1 p1 fun u st2 s2 y dy I2 ry t2 R2 ev2 qy p2 => ?_)) hm
  refine thn (opC_ok hu I2 rx ry R2 (RV.mono t2 qx) qy (Post.bind p2)) fun d st3 ⟨z, H3, I3, rz, s3, dz, e3, t3, R3, q3, p3⟩ => ?_
  subst e3
  obtain ⟨k, rfl, rfl, q4⟩ := Post.if_ q3 p3
  cases rz
  refine wpAny_truthy_bool ?_
  cases k with
  | false => exact ite_ff ⟨.bl false, _, I3, rfl, q4.now R3 rfl⟩
  | true =>
    refine ite_tt (chain_last (one hc I3 R3 (ev2.mono t3) q4 fun w' st4 s4 w dw I4 rw' t4 R4 ev4 qw p4 => ?_))
    exact opC_ok hu I4 ry rw' R4 (RV.mono (t3.trans t4) qy) qw p4
theorem snd_tst_chain (hu : X.A.units + 65 < cLine) {o1 o2 : Cop} {a b c : Expr} {pos : Pos} {ma mb mc : En → Hm → Res D} (ha : PE X a (rdE G W ma)) (hb : PE X b (rdE G W mb)) (hc : PE X c (rdE G W mc)) (hm : lastMarks [o1.op, o2.op] [b, c] = false) :
    PT X (.Compare a [o1.op, o2.op] [b, c] pos) (rdT G W (tst fun ρ h => (ma ρ h).bind fun x h => (mb ρ h).bind fun y h => (opC o1 x y h).bind fun z h => ifD z ((mc ρ h).bind fun w h => opC o2 y w h) (.ok (.bl false) h))) := by
  refine ⟨fun pins st σ H Q I ⟨s, ρ, e, R, ev, p⟩ => ?_⟩
  subst e
  have p' : Post G W σ rB s ((ma ρ s.h).bind fun x h => (mb ρ h).bind fun y h => (opC o1 x y h).bind fun z h => (ifD z ((mc ρ h).bind fun w h => opC o2 y w h) (.ok (.bl false) h)).bind asB) Q := by
    unfold tst at p
    simpa only [snd_tst_cmp.bind_assoc] using p
  refine isTrue_chain (one ha I R ev p' fun v st1 s1 x dx I1 rx _ R1 ev1 qx p1 => test_link (one hb I1 R1 ev1 p1 fun u st2 s2 y dy I2 ry t2 R2 ev2 qy p2 => ?_)) hm
  refine thn (opC_ok hu I2 rx ry R2 (RV.mono t2 qx) qy (Post.bind p2)) fun d st3 ⟨z, H3, I3, rz, s3, dz, e3, t3, R3, q3, p3⟩ => ?_
  subst e3
  cases dz with
  | bl k =>
    cases (show z = V.bl k from q3)
    cases rz
    refine wpAny_truthy_bool ?_
    cases k with
    | false => exact ite_ff ⟨_, I3, Post.now (b := false) p3 R3 rfl⟩
    | true =>
      have p4 : Post G W σ rB s3 ((mc ρ s3.h).bind fun w h => (opC o2 dy w h).bind asB) Q := by
        have p5 : Post G W σ rB s3 (((mc ρ s3.h).bind fun w h => opC o2 dy w h).bind asB) Q := p3
        simpa only [snd_tst_cmp.bind_assoc] using p5
      refine ite_tt (test_last (one hc I3 R3 (ev2.mono t3) p4 fun w' st4 s4 w dw I4 rw' t4 R4 ev4 qw p4 => ?_))
      refine thn (opC_ok hu I4 ry rw' R4 (RV.mono (t3.trans t4) qy) qw (Post.bind p4)) fun d' st5 ⟨z', H5, I5, rz', s5, dz', e5, t5, R5, q5, p5⟩ => ?_
      subst e5
      obtain ⟨b, rfl, rfl, q6⟩ := Post.bl R5 q5 p5
      cases rz'
      exact wpAny_truthy_bool ⟨_, I5, q6⟩
  | _ => exact p3.elim

/-! ### not, and, or, if-else -/
theorem snd_not {a : Expr} {pos : Pos} {ma : En → Hm → Res D} (ha : PE X a (rdE G W ma)) : PE X (.UnaryOp .Not a pos) (rdE G W fun ρ h => (ma ρ h).bind notD) := by
  refine ⟨fun pins st σ H Q I ⟨s, ρ, e, R, ev, p⟩ => ?_⟩
  subst e
  refine UnaryOp_ (one ha I R ev p fun v st2 s2 x dx I2 rx _ R2 _ qx p2 => ?_)
  cases dx with
  | bl b =>
    cases (show x = V.bl b from qx)
    cases rx
    exact not_of (wpAny_truthy_bool ⟨.bl (!b), _, I2, rfl, p2.now R2 rfl⟩)
  | _ => exact p2.elim
theorem snd_tst_not {a : Expr} {pos : Pos} {ma : En → Hm → Res D} (ha : PT X a (rdT G W (tst ma))) : PT X (.UnaryOp .Not a pos) (rdT G W (tst fun ρ h => (ma ρ h).bind notD)) := by
  refine ⟨fun pins st σ H Q I ⟨s, ρ, e, R, ev, p⟩ => ?_⟩
  subst e
  refine isTrue_not (ha.run pins st σ s.H (fun c H1 => Q (!c) H1) I ⟨s, ρ, rfl, R, ev, ?_⟩)
  have p' : Post G W σ rB s (((ma ρ s.h).bind notD).bind asB) Q := p
  show Post G W σ rB s ((ma ρ s.h).bind asB) _
  cases hm : ma ρ s.h with
  | ok d h =>
    rw [hm] at p'
    cases d with
    | bl b =>
      intro s' c e t R' q
      cases (show b = c from q)
      exact Post.at (b := !b) (rel := rB) p' s' e t R' rfl
    | _ => exact p'.elim
  | exc c fs h => rw [hm] at p'; exact p'
  | stuck => rw [hm] at p'; exact p'.elim
/-- and, or: one; one more ahead -/
theorem snd_bool_one {op : BoolOp} {a : Expr} {pos : Pos} {ma : En → Hm → Res D} (ha : PE X a (rdE G W ma)) : PE X (.BoolOp op [a] pos) (rdE G W ma) := pe_one ha
theorem snd_and {a b : Expr} {rest : List Expr} {pos : Pos} {ma mb : En → Hm → Res D} (ha : PE X a (rdE G W ma)) (hb : PE X (.BoolOp .And (b :: rest) pos) (rdE G W mb)) :
    PE X (.BoolOp .And (a :: b :: rest) pos) (rdE G W fun ρ h => (ma ρ h).bind fun x h => ifD x (mb ρ h) (.ok (.bl false) h)) := by
  refine ⟨fun pins st σ H Q I ⟨s, ρ, e, R, ev, p⟩ => ?_⟩
  subst e
  refine BoolOp_and (one ha I R ev p fun v st1 s1 x dx I1 rx t1 R1 ev1 qx p1 => ?_)
  obtain ⟨k, rfl, rfl, q⟩ := Post.if_ qx p1
  cases rx
  refine wpAny_truthy_bool ?_
  cases k with
  | true => exact hb.run pins st1 σ s1.H Q I1 ⟨s1, ρ, rfl, R1, ev1, q⟩
  | false => exact ⟨.bl false, _, I1, rfl, q.now R1 rfl⟩
theorem snd_or {a b : Expr} {rest : List Expr} {pos : Pos} {ma mb : En → Hm → Res D} (ha : PE X a (rdE G W ma)) (hb : PE X (.BoolOp .Or (b :: rest) pos) (rdE G W mb)) :
    PE X (.BoolOp .Or (a :: b :: rest) pos) (rdE G W fun ρ h => (ma ρ h).bind fun x h => ifD x (.ok (.bl true) h) (mb ρ h)) := by
  refine ⟨fun pins st σ H Q I ⟨s, ρ, e, R, ev, p⟩ => ?_⟩
  subst e
  refine BoolOp_or (one ha I R ev p fun v st1 s1 x dx I1 rx t1 R1 ev1 qx p1 => ?_)
  obtain ⟨k, rfl, rfl, q⟩ := Post.if_ qx p1
  cases rx
  refine wpAny_truthy_bool ?_
  cases k with
  | true => exact ⟨.bl true, _, I1, rfl, q.now R1 rfl⟩
  | false => exact hb.run pins st1 σ s1.H Q I1 ⟨s1, ρ, rfl, R1, ev1, q⟩
/-- as tests -/
theorem snd_tst_and1 {a : Expr} {pos : Pos} {ma : En → Hm → Res D} (ha : PT X a (rdT G W (tst ma))) : PW X (.BoolOp .And [a] pos) (rdT G W (tst ma)) := pw_and1 ha
theorem snd_tst_or1 {a : Expr} {pos : Pos} {ma : En → Hm → Res D} (ha : PT X a (rdT G W (tst ma))) : PW X (.BoolOp .Or [a] pos) (rdT G W (tst ma)) := pw_or1 ha
theorem tst_part {s : Sx} {σ : St} {ρ : En} {ma : En → Hm → Res D} {k l : Hm → Res D} {Q : Bool → Hp → Prop} (p : Post G W σ rB s (((ma ρ s.h).bind fun x h => ifD x (k h) (l h)).bind asB) Q) :
    Post G W σ rB s (tst ma ρ s.h) (fun c H => ∃ s1, s1.H = H ∧ TR s s1 ∧ REL G s1 ∧ Post G W σ rB s1 ((if c then k s1.h else l s1.h).bind asB) Q) := by
  unfold tst
  cases hm : ma ρ s.h with
  | ok d h =>
    rw [hm] at p
    cases d with
    | bl b =>
      intro s' c e t R' q
      cases (show b = c from q)
      subst e
      exact ⟨s', rfl, t, R', Post.shift t (by cases b <;> exact p)⟩
    | _ => exact p.elim
  | exc c fs h => rw [hm] at p; exact p
  | stuck => rw [hm] at p; exact p.elim
theorem snd_tst_and {a b : Expr} {rest : List Expr} {pos : Pos} {ma mb : En → Hm → Res D} (ha : PT X a (rdT G W (tst ma))) (hb : PW X (.BoolOp .And (b :: rest) pos) (rdT G W (tst mb))) :
    PW X (.BoolOp .And (a :: b :: rest) pos) (rdT G W (tst fun ρ h => (ma ρ h).bind fun x h => ifD x (mb ρ h) (.ok (.bl false) h))) := by
  refine ⟨fun wh pins st σ H Q I ⟨s, ρ, e, R, ev, p⟩ => ?_⟩
  subst e
  refine isTrue_and (thn (ha.run pins st σ s.H _ I ⟨s, ρ, rfl, R, ev, tst_part p⟩) fun c st1 ⟨H1, I1, s1, e1, t1, R1, q1⟩ => ?_)
  subst e1
  cases c with
  | true => exact hb.run wh pins st1 σ s1.H Q I1 ⟨s1, ρ, rfl, R1, ev.mono t1, q1⟩
  | false => exact ⟨_, I1, Post.now (b := false) q1 R1 rfl⟩
theorem snd_tst_or {a b : Expr} {rest : List Expr} {pos : Pos} {ma mb : En → Hm → Res D} (ha : PT X a (rdT G W (tst ma))) (hb : PW X (.BoolOp .Or (b :: rest) pos) (rdT G W (tst mb))) :
    PW X (.BoolOp .Or (a :: b :: rest) pos) (rdT G W (tst fun ρ h => (ma ρ h).bind fun x h => ifD x (.ok (.bl true) h) (mb ρ h))) := by
  refine ⟨fun wh pins st σ H Q I ⟨s, ρ, e, R, ev, p⟩ => ?_⟩
  subst e
  refine isTrue_or (thn (ha.run pins st σ s.H _ I ⟨s, ρ, rfl, R, ev, tst_part p⟩) fun c st1 ⟨H1, I1, s1, e1, t1, R1, q1⟩ => ?_)
  subst e1
  cases c with
  | true => exact ⟨_, I1, Post.now (b := true) q1 R1 rfl⟩
  | false => exact hb.run wh pins st1 σ s1.H Q I1 ⟨s1, ρ, rfl, R1, ev.mono t1, q1⟩
theorem snd_ife {c a b : Expr} {pos : Pos} {mc ma mb : En → Hm → Res D} (hc : PT X c (rdT G W (tst mc))) (ha : PE X a (rdE G W ma)) (hb : PE X b (rdE G W mb)) :
    PE X (.IfExp c a b pos) (rdE G W fun ρ h => (mc ρ h).bind fun x h => ifD x (ma ρ h) (mb ρ h)) := by
  refine ⟨fun pins st σ H Q I ⟨s, ρ, e, R, ev, p⟩ => ?_⟩
  subst e
  have p : Post G W σ (rV G) s ((mc ρ s.h).bind fun x h => ifD x (ma ρ h) (mb ρ h)) Q := p
  have p' : Post G W σ rB s (tst mc ρ s.h) (fun c H => ∃ s1, s1.H = H ∧ TR s s1 ∧ REL G s1 ∧ Post G W σ (rV G) s1 (if c then ma ρ s1.h else mb ρ s1.h) Q) := by
    unfold tst
    cases hm : mc ρ s.h with
    | ok d h =>
      rw [hm] at p
      cases d with
      | bl b =>
        intro s' c e t R' q
        cases (show b = c from q)
        subst e
        exact ⟨s', rfl, t, R', Post.shift t (by cases b <;> exact p)⟩
      | _ => exact p.elim
    | exc c fs h => rw [hm] at p; exact p
    | stuck => rw [hm] at p; exact p.elim
  refine wpAny_IfExp (thn (hc.run pins st σ s.H _ I ⟨s, ρ, rfl, R, ev, p'⟩) fun d st1 ⟨H1, I1, s1, e1, t1, R1, q1⟩ => ?_)
  subst e1
  cases d with
  | true => exact ha.run pins st1 σ s1.H Q I1 ⟨s1, ρ, rfl, R1, ev.mono t1, q1⟩
  | false => exact hb.run pins st1 σ s1.H Q I1 ⟨s1, ρ, rfl, R1, ev.mono t1, q1⟩

/-! ### argument lists, displays -/
theorem PA.imp {es : List Expr} {t t' : TA} (h : PA X es t) (k : ∀ σ H Q, t' σ H Q → t σ H Q) : PA X es t' := ⟨fun pos pins s σ H Q I w => h.run pos pins s σ H Q I (k σ H Q w)⟩
theorem snd_nil : PA X [] (rdA G W fun _ h => .ok [] h) := PA.imp pa_nil fun σ H Q ⟨s, ρ, e, R, ev, p⟩ => by subst e; exact p.now R rfl
theorem snd_cons {e : Expr} {es : List Expr} {m : En → Hm → Res D} {ms : En → Hm → Res (List D)} (ha : PE X e (rdE G W m)) (hr : PA X es (rdA G W ms)) (hs : starEach (e :: es) X.env = (false, eval e X.env) :: starEach es X.env) :
    PA X (e :: es) (rdA G W fun ρ h => (m ρ h).bind fun x h => (ms ρ h).bind fun xs h => .ok (x :: xs) h) :=
  PA.imp (pa_cons ha hr hs) fun σ H Q ⟨s, ρ, e, R, ev, p⟩ => by
    subst e
    refine ⟨s, ρ, rfl, R, ev, (Post.bind p).imp fun v H1 ⟨s1, d, e1, t1, R1, q1, p1⟩ => ?_⟩
    subst e1
    refine ⟨s1, ρ, rfl, R1, ev.mono t1, (Post.bind p1).imp fun vs H2 ⟨s2, ds, e2, t2, R2, q2, p2⟩ => ?_⟩
    subst e2
    exact p2.now R2 ⟨v, vs, rfl, RV.mono t2 q1, q2⟩
/-- behind an argument list -/
theorem args {es : List Expr} {ms : En → Hm → Res (List D)} (ha : PA X es (rdA G W ms)) {pos : Pos} {δ ε : Type} {rel' : Sx → δ → ε → Prop} {k : List D → Hm → Res δ} {Q : ε → Hp → Prop} {pins : List (Addr × Obj)} {st : Shared} {σ : St} {s : Sx} {ρ : En}
    (I : Inv X pins σ s.H st) (R : REL G s) (ev : EV G s ρ σ) (p : Post G W σ rel' s ((ms ρ s.h).bind k) Q) {Qf : List Value → Shared → Prop}
    (hf : ∀ us st2 s2 vs ds, Inv X pins σ s2.H st2 → Vals vs us → TR s s2 → REL G s2 → EV G s2 ρ σ → s2.RVs G ds vs → Post G W σ rel' s2 (k ds s2.h) Q → Qf us st2) :
    wpAny (model X.prog X.w) X.A (spliced (backTo pos (starEach es X.env))) Qf X.xe st := by
  refine thn (ha.run pos pins st σ s.H _ I ⟨s, ρ, rfl, R, ev, Post.bind p⟩) fun us st2 ⟨vs, H1, I1, rs, s1, ds, e, t, R1, rv, p1⟩ => ?_
  subst e
  exact hf us st2 s1 vs ds I1 rs t R1 (ev.mono t) rv p1
theorem snd_tup {es : List Expr} {k : Nat} {pos : Pos} {ms : En → Hm → Res (List D)} (h : PA X es (rdA G W ms)) : PE X (.Tuple es k pos) (rdE G W fun ρ h => (ms ρ h).bind tupD) :=
  PE.imp (pe_tup h) fun σ H Q ⟨s, ρ, e, R, ev, p⟩ => by
    subst e
    refine ⟨s, ρ, rfl, R, ev, (Post.bind p).imp fun vs H1 ⟨s1, ds, e1, t1, R1, q1, p1⟩ => ?_⟩
    subst e1
    unfold tupD at p1
    split at p1
    · rename_i hz
      exact ⟨by rw [big_eq, ← RVs.length q1]; exact hz, fun q hq => lay_tup R1 hq q1 p1⟩
    · exact p1.elim
theorem snd_lst {mk : Bool} {es : List Expr} {pos : Pos} {ms : En → Hm → Res (List D)} (h : PA X es (rdA G W ms)) : PE X (.List es pos) (rdE G W fun ρ h => (ms ρ h).bind fun xs h => newL mk xs h) :=
  PE.imp (pe_lst h) fun σ H Q ⟨s, ρ, e, R, ev, p⟩ => by
    subst e
    refine ⟨s, ρ, rfl, R, ev, (Post.bind p).imp fun vs H1 ⟨s1, ds, e1, t1, R1, q1, p1⟩ => ?_⟩
    subst e1
    exact ⟨by rw [big_eq, ← RVs.length q1]; exact newL_big p1, fun q hq => lay_lst R1 hq q1 p1⟩

/-! ### subscripts and slices -/
theorem RVs.atI {s : Sx} {xs : List D} {us : List V} {i : Int} {d : D} (r : s.RVs G xs us) (h : L2.atI xs i = some d) : ∃ v, L2.atI us i = some v ∧ s.RV G d v := by
  unfold L2.atI at h ⊢
  rw [← RVs.length r]
  cases e : ixN xs.length i with
  | none => rw [e] at h; cases h
  | some j =>
    rw [e] at h
    exact RVs.get r h
theorem ix_dict (hu : X.A.units + 1 < cLine) : IxR X (fun x y H Q => ∃ a v, x = V.ref a ∧ DGet H a y (some v) ∧ Q v H) := by
  intro value slice pins s σ H x y v u Q I rx ry h hs
  obtain ⟨a, w', rfl, g, q⟩ := h
  obtain rfl : v = Value.ref a := rx
  exact tail_any (dict_typeIs I g) PySem.F.slot_dict_getitem.lookup (d_getItem hu I g ry fun w2 s3 I3 rw' => ⟨w', H, I3, rw', q⟩) hs
theorem nodeD_rd {s : Sx} {x : D} {v : V} {n : Nat} {kvs : List (D × D)} (R : REL G s) (q : s.RV G x v) (h : nodeD x s.h = some (n, kvs)) : ∃ p us, v = .ref p ∧ s.am n = some p ∧ s.h[n]? = some (.dic kvs) ∧ s.H p = some (.dK us) ∧ s.RKs G kvs us := by
  unfold nodeD at h
  split at h
  · split at h
    · rename_i m _ ys hn
      cases h
      obtain ⟨p, e, a⟩ := q
      obtain ⟨us, h1, h2⟩ := R.node _ _ p hn a
      exact ⟨p, us, e, a, hn, h1, h2⟩
    · cases h
  · cases h
theorem snd_idx (hu : X.A.units + 65 < cLine) {a b : Expr} {pos : Pos} {ma mb : En → Hm → Res D} (ha : PE X a (rdE G W ma)) (hb : PE X b (rdE G W mb)) (hs : PlainIx b) :
    PE X (.Subscript a b pos) (rdE G W fun ρ h => (ma ρ h).bind fun x h => (mb ρ h).bind fun y h => ixD x y h) := by
  refine ⟨fun pins st σ H Q I ⟨s, ρ, e, R, ev, p⟩ => ?_⟩
  subst e
  refine Subscript_ (two ha hb I R ev p fun v u st2 s2 x y dx dy I2 rx ry _ R2 _ qx qy p2 => ?_)
  have hdic : Post G W σ (rV G) s2 (ixDic dx dy s2.h) Q → ∃ a v, x = V.ref a ∧ DGet s2.H a y (some v) ∧ Q v s2.H := by
    clear p2 p
    intro p2
    unfold ixDic at p2
    split at p2
    · rename_i n kvs hn
      obtain ⟨q, us, rfl, _, _, h1, h2⟩ := nodeD_rd R2 qx hn
      split at p2
      · rename_i hk
        obtain ⟨k, hk⟩ := keyK_of hk
        cases keyK_rv hk qy
        split at p2
        · rename_i d hd
          have := RKs.get hk h2
          rw [hd] at this
          cases h3 : valV us k with
          | none => rw [h3] at this; exact this.elim
          | some v2 =>
            rw [h3] at this
            refine ⟨q, v2, rfl, ?_, p2.now R2 this⟩
            rw [← h3]
            exact .k h1
        · exact p2.elim
      · exact p2.elim
    · exact p2.elim
  refine (ix_seq.or (ix_dict (by omega))) a b pins st2 σ s2.H x y v u Q I2 rx ry ?_ (hs _ _)
  unfold ixD at p2
  split at p2
  · rename_i z i
    split at p2
    · rename_i hz
      split at p2
      · rename_i c hc
        exact .inl (.inr (.inr ⟨z, i, c, qx, qy, by rw [big_eq]; exact hz, hc, p2.now R2 rfl⟩))
      · exact p2.elim
    · exact p2.elim
  · rename_i i _
    split at p2
    · rename_i xs hx
      cases (show y = V.int i from qy)
      split at p2
      · rename_i d hd
        obtain ⟨q, us, e1, h, r⟩ := getS_rd X.K R2 qx hx
        subst e1
        obtain ⟨v', h1, h2⟩ := RVs.atI r hd
        rcases h with h | h
        · exact .inl (.inl ⟨q, us, i, v', rfl, rfl, h, h1, p2.now R2 h2⟩)
        · exact .inl (.inr (.inl ⟨q, us, i, v', rfl, rfl, h, h1, p2.now R2 h2⟩))
      · exact p2.elim
    · exact .inr (hdic p2)
  · exact .inr (hdic p2)
theorem PO.imp {e : Option Expr} {t t' : TO} (h : PO X e t) (k : ∀ σ H Q, t' σ H Q → t σ H Q) : PO X e t' := ⟨fun pins s σ H Q I w => h.run pins s σ H Q I (k σ H Q w)⟩
theorem snd_po_none : PO X none (rdO G W fun _ h => .ok none h) := PO.imp po_none fun σ H Q ⟨s, ρ, e, R, ev, p⟩ => by subst e; exact p.now R rfl
theorem snd_po_some {e : Expr} {m : En → Hm → Res D} (h : PE X e (rdE G W m)) : PO X (some e) (rdO G W fun ρ h => (m ρ h).bind asO) :=
  PO.imp (po_some h) fun σ H Q ⟨s, ρ, e, R, ev, p⟩ => by
    subst e
    refine ⟨s, ρ, rfl, R, ev, (Post.bind p).imp fun v H1 ⟨s1, d, e1, t1, R1, q1, p1⟩ => ?_⟩
    subst e1
    cases d with
    | int i => exact ⟨i, q1, Post.now (b := some i) p1 R1 rfl⟩
    | _ => exact p1.elim
theorem RVs.cut {s : Sx} {xs : List D} {us : List V} (lo hi : Option Int) (r : s.RVs G xs us) : s.RVs G (cutD xs lo hi) (cutV us lo hi) := by
  unfold cutD cutV
  rw [← RVs.length r]
  exact RVs.take _ (RVs.drop _ r)
theorem snd_cut {mk : Bool} {a : Expr} {lo hi : Option Expr} {p2 pos : Pos} {ma : En → Hm → Res D} {ml mu : En → Hm → Res (Option Int)} (ha : PE X a (rdE G W ma)) (hl : PO X lo (rdO G W ml)) (hu : PO X hi (rdO G W mu)) :
    PE X (.Subscript a (.Slice lo hi none p2) pos) (rdE G W fun ρ h => (ma ρ h).bind fun x h => (ml ρ h).bind fun l h => (mu ρ h).bind fun u h => cutOp mk x l u h) :=
  PE.imp (pe_slice ((sl_list_rd.or sl_tupA).or sl_str) ha hl hu) fun σ H Q ⟨s, ρ, e, R, ev, p⟩ => by
    subst e
    refine ⟨s, ρ, rfl, R, ev, (Post.bind p).imp fun v H1 ⟨s1, d, e1, t1, R1, q1, p1⟩ => ?_⟩
    subst e1
    refine ⟨s1, ρ, rfl, R1, ev.mono t1, (Post.bind p1).imp fun l H2 ⟨s2, l', e2, t2, R2, q2, p2⟩ => ?_⟩
    subst e2
    have q2 : l' = l := q2
    subst q2
    refine ⟨s2, ρ, rfl, R2, (ev.mono t1).mono t2, (Post.bind p2).imp fun u H3 ⟨s3, u', e3, t3, R3, q3, p3⟩ => ?_⟩
    subst e3
    have q3 : u' = u := q3
    subst q3
    have qd := RV.mono (t2.trans t3) q1
    have hL : ∀ xs, getL s3.h d = some xs → Post G W σ (rV G) s3 (newL mk (cutD xs l' u') s3.h) Q → rSlL X.K v l' u' s3.H Q := fun xs hx p4 => by
      obtain ⟨q, us, e4, h, r⟩ := getL_rd X.K R3 qd hx
      exact ⟨q, us, e4, h, fun p' hp => lay_lst R3 hp (RVs.cut _ _ r) p4⟩
    cases d with
    | tup xs =>
      have p4 : Post G W σ (rV G) s3 (.ok (.tup (cutD xs l' u')) s3.h) Q := p3
      obtain ⟨q, us, e4, h, k, r⟩ := qd
      refine .inl (.inr ⟨q, us, e4, .inl h, fun hw => ?_, fun _ p' hp => lay_tup R3 hp (RVs.cut _ _ r) p4⟩)
      have e5 : cutD xs l' u' = xs := by
        unfold cutD
        rw [RVs.length r, hw.1, hw.2, ← RVs.length r]
        simp
      rw [e5] at p4
      exact p4.now R3 ⟨q, us, rfl, h, k, r⟩
    | str z =>
      have p4 : Post G W σ (rV G) s3 (if z.length ≤ big then .ok (.str ⟨(cutD z.cps.toList l' u').toArray⟩) s3.h else .stuck) Q := p3
      split at p4
      · rename_i hz
        refine .inr ⟨z, qd, by rw [big_eq]; exact hz, ?_⟩
        have e5 : cutS z l' u' = ⟨(cutD z.cps.toList l' u').toArray⟩ := by
          unfold cutS cutD
          simp [Str.length]
        rw [e5]
        exact p4.now R3 rfl
      · exact p4.elim
    | lst xs => exact .inl (.inl (hL xs rfl p3))
    | scr xs => exact .inl (.inl (hL xs rfl p3))
    | ref n =>
      cases hx : getL s3.h (.ref n) with
      | none =>
        have p4 : Post G W σ (rV G) s3 (match getL s3.h (.ref n) with | some xs => newL mk (cutD xs l' u') s3.h | none => .stuck) Q := p3
        rw [hx] at p4
        exact p4.elim
      | some xs =>
        have p4 : Post G W σ (rV G) s3 (match getL s3.h (.ref n) with | some xs => newL mk (cutD xs l' u') s3.h | none => .stuck) Q := p3
        rw [hx] at p4
        exact .inl (.inl (hL xs hx p4))
    | _ => exact p3.elim
where
  sl_list_rd {X : Cx} : SlR X (rSlL X.K) := sl_list
end
end L2.Mini
set_option Elab.async false
set_option linter.all false
set_option maxRecDepth 100000
set_option maxHeartbeats 1000000
/-! Mini, part 6: attributes, calls. -/
namespace L2.Mini
open PySem PySem.Spec PyProof.Rows

/-- a def's promise: as its meaning says -/
def spOf (G : Gx) (n : Nat) (m : List D → Hm → Res D) : Sp := fun vs H Q E => vs.length = n ∧ ∃ s ds, s.H = H ∧ REL G s ∧ s.RVs G ds vs ∧ Post G (fun c d _ H' => E c d H') [] (rV G) s (m ds s.h) Q
def Cst.v : Cst → V
  | .non => .non | .bl b => .bl b | .int i => .int i | .str x => .str x
theorem Cst.rv {G : Gx} {s : Sx} (c : Cst) : s.RV G c.d c.v := by cases c <;> rfl
theorem Cst.rvs {G : Gx} {s : Sx} : ∀ ds : List Cst, s.RVs G (ds.map Cst.d) (ds.map Cst.v)
  | [] => rfl
  | c :: r => ⟨_, _, rfl, c.rv, Cst.rvs r⟩
/-- what is known of a def -/
structure FnFact (G : Gx) (C : Calls) (P : Program) (w : World) (K : PySem.W.Frag) (mg : Str → Option Value) (base : Heap) (kk i : Nat) : Prop where
  ok : ∃ (fd : FuncData) (ps : List Str) (k : Nat), k ≤ kk ∧ FnOk P w K mg base (L2.CX P w) k (G.fa i) fd ps (spOf G ps.length (C.fn i)) ∧ (∀ xs h, xs.length ≠ ps.length → C.fn i xs h = .stuck) ∧ ∀ ds, C.df i ds = true → ∃ us, Vals (ds.map Cst.v) us ∧ Binds K fd ps us
  kp : PySem.W.keepIn K (.ref (G.fa i)) = true
/-- an exception class without own __init__ may be called with a text -/
def ExcB (K : PySem.W.Frag) (A : Addr) : Prop := ∃ (bmB : List Value) (B newId initId : String), ExcBaseFacts B newId initId bmB ∧ PySem.W.excIn K A bmB newId = true
/-- what an __init__ that sets one field, two fields, comes to -/
def sp1 (A : Addr) (f : Str) : Sp := fun vs H Q _ => ∃ (a : Addr) (y : V), vs = [.ref a, y] ∧ H a = some (exo a A none) ∧ ∀ d, H d = none → d ≠ a → Q .non (upd (upd H d (exd d [(f, y)])) a (exo a A (some d)))
def sp2 (A : Addr) (f g : Str) : Sp := fun vs H Q _ => ∃ (a : Addr) (y z : V), vs = [.ref a, y, z] ∧ H a = some (exo a A none) ∧ ∀ d, H d = none → d ≠ a → Q .non (upd (upd (upd H d (exd d [(f, y)])) a (exo a A (some d))) d (exd d [(g, z), (f, y)]))
/-- an exception class with one field or two -/
structure XiOk (G : Gx) (C : Calls) (P : Program) (w : World) (K : PySem.W.Frag) (mg : Str → Option Value) (base : Heap) (kk c : Nat) : Prop where
  lt : 1 ≤ kk
  T : OexC K (G.ca c)
  g : mg (G.cn c) = some (.ref (G.ca c))
  ini : ∃ (fI : Addr) (fd : FuncData) (ps : List Str), PySem.W.findIn K (.ref (G.ca c)) "__init__" = some (some (.ref fI)) ∧ PySem.W.typeIn K (.ref fI) = some (.type "function") ∧ Binds K fd ps [] ∧
    ((∃ f, C.xf c = [f] ∧ FnOk P w K mg base (L2.CX P w) 1 fI fd ps (sp1 (G.ca c) (G.nm f))) ∨ (∃ f g, C.xf c = [f, g] ∧ f ≠ g ∧ FnOk P w K mg base (L2.CX P w) 1 fI fd ps (sp2 (G.ca c) (G.nm f) (G.nm g))))
/-- what is known of an exception class -/
structure ExcF (K : PySem.W.Frag) (mg : Str → Option Value) (A : Addr) (x : Str) : Prop where
  gC : mg x = some (.ref A)
  kC : PySem.W.keepIn K (.ref A) = true
  sb : PySem.W.subIn K (.ref A) (.type "BaseException") = some true
  ty : PySem.W.typeIn K (.ref A) = some (.type "type")
  ec : ExcC K A
/-- what the top has written -/
structure Sta (G : Gx) (C : Calls) (P : Program) (w : World) (K : PySem.W.Frag) (mg : Str → Option Value) (base : Heap) (kk : Nat) : Prop where
  fn : ∀ i, C.has i = true → FnFact G C P w K mg base kk i
  mkc : ∀ c i, C.ini c = some i → C.has i = true ∧ Mk K (G.ca c) (G.fa i) ∧ mg (G.cn c) = some (.ref (G.ca c))
  mt : ∀ c m i, C.mt c m = some i → C.has i = true ∧ Cls K (G.ca c) ∧ Meth K (G.ca c) (G.nm m) (G.fa i)
  fl : ∀ c f, C.fl c f = true → Cls K (G.ca c) ∧ NoAttr K (G.ca c) (G.nm f)
  df : ∀ i, C.df i [] = true
  xc : ∀ c, C.xok c = true → ExcF K mg (G.ca c) (G.cn c)
  xb : ∀ c, C.xok c = true → C.xf c = [] → ExcB K (G.ca c)
  xi : ∀ c, C.xi c = true → XiOk G C P w K mg base kk c
  xl : ∀ c f, (C.xf c).contains f = true → XfC K (G.ca c) ∧ PySem.W.findIn K (.ref (G.ca c)) (G.nm f) = some none
  xs : ∀ c d, C.xok c = true → C.xok d = true → PySem.W.subIn K (.ref (G.ca c)) (.ref (G.ca d)) = some (C.sub c d) ∧ PySem.W.kitOne K (.ref (G.ca c)) (.ref (G.ca d)) = some (C.sub c d)
  xv : ∀ c, C.xok c = true → PySem.W.kitOne K (.ref (G.ca c)) (.type "ValueError") = some true

/-! ### a method's call in the tree -/
theorem Call_meth {prog : Program} {w : World} {A : Around} {E : Value → Shared → Prop} {s : Shared} {env : Env} {o : Expr} {name : Str} {apos pos : Pos} {args : List Expr} {Q : Value → Shared → Prop}
    (hbase : attributeBase o name env (eval o env) = eval o env)
    (hfew : ((backTo pos (starEach args env)).all (fun x => !x.1) && (backToKw pos (keywordEach [] env)).all (fun x => x.1.isSome)
      && decide (args.length + ([] : List Keyword).length + (if ([] : List Keyword).isEmpty then 0 else 1) < 30)) = true)
    (hline : (apos.endLine == pos.line) = true)
    (h : wpAny (model prog w) A (eval o env) (fun ov s₁ => ∀ pl : Sem Bool, wpAny (model prog w) A (getMethod ov name pl) (fun fx s₂ => wpAny (model prog w) A (callWith pos fx.1 fx.2 (backTo pos (starEach args env)) (backToKw pos (keywordEach [] env))) Q E s₂) E s₁) E s) :
    wpAny (model prog w) A (eval (.Call (.Attribute o name apos) args [] pos) env) Q E s := by
  rw [arm_eval_Call, hbase]
  refine wpAny_bind (wpAny_mono h (fun ov s₁ h₁ => ?_) fun _ _ e => e)
  refine wpAny_bind (wpAny_standAt ?_)
  have hform : methodCallForm (args.length + ([] : List Keyword).length) (backTo pos (starEach args env)) (backToKw pos (keywordEach [] env)) = true := hfew
  have hpos : methodCallPos true o env apos pos = pure pos := by unfold methodCallPos; simp [hline]
  unfold methodCall
  rw [hform]
  refine wpAny_bind (wpAny_holding (wpAny_mono (h₁ _) (fun fx s₂ h₂ => ?_) fun _ _ e => e))
  exact wpAny_bind (wpAny_of_eq hpos h₂)

/-! ### no stars -/
def noStar1 : Expr → Bool
  | .Starred _ _ => false
  | _ => true
theorem star_cons {e : Expr} (h : noStar1 e = true) (es : List Expr) (env : Env) : starEach (e :: es) env = (false, eval e env) :: starEach es env := by
  cases e <;> first | rfl | exact absurd h Bool.false_ne_true
theorem star_none {env : Env} : ∀ {es : List Expr}, es.all noStar1 = true → (starEach es env).all (fun x => !x.1) = true
  | [], _ => rfl
  | e :: es, h => by
    rw [List.all_cons] at h
    obtain ⟨h1, h2⟩ := Bool.and_eq_true_iff.mp h
    rw [star_cons h1, List.all_cons, star_none h2]
    rfl
theorem back_all {pos : Pos} {ts : List (Bool × Sem Value)} : (backTo pos ts).all (fun x => !x.1) = ts.all (fun x => !x.1) := by
  unfold backTo
  rw [List.all_map]
  rfl
theorem back_any {pos : Pos} {es : List Expr} {env : Env} (h : es.all noStar1 = true) : (backTo pos (starEach es env)).any (·.1) = false := by
  have h1 := star_none (env := env) h
  rw [List.any_eq_false]
  intro x hx
  rw [← back_all (pos := pos)] at h1
  have := List.all_eq_true.mp h1 x hx
  simpa using this
theorem few_of {pos : Pos} {es : List Expr} {env : Env} (h : es.all noStar1 = true) (hl : es.length < 30) : ((backTo pos (starEach es env)).all (fun x => !x.1) && (backToKw pos (keywordEach [] env)).all (fun x => x.1.isSome)
      && decide (es.length + ([] : List Keyword).length + (if ([] : List Keyword).isEmpty then 0 else 1) < 30)) = true := by
  rw [back_all, star_none h]
  have : decide (es.length + ([] : List Keyword).length + (if ([] : List Keyword).isEmpty then 0 else 1) < 30) = true := by
    simpa using hl
  rw [this]
  rfl
/-- not a bare call, on which super may stand -/
def noCall : Expr → Bool
  | .Call _ _ _ _ => false
  | _ => true
/-- .. or a call that is no super() -/
def baseOk : Expr → Bool
  | .Call (.Name id _) [] [] _ => id != "super"
  | _ => true
theorem base_ok {o : Expr} {attr : Str} {env : Env} {whole : Sem Value} (h : baseOk o = true) : attributeBase o attr env whole = whole := by
  unfold attributeBase
  split
  · rename_i id _ _
    have h' : (id != ("super" : Str)) = true := h
    rw [h']
    simp
  · rfl

section
variable {G : Gx} {W : WX} {X : Cx} [KEq G X.K] [WEq G X.w]
/-! ### attributes -/
theorem ins_rd {s : Sx} {d : D} {v : V} {c : Nat} {fs : List (Nat × D)} (R : REL G s) (q : s.RV G d v) (h : insD d s.h = some (c, fs)) : ∃ p dx us, v = .ref p ∧ s.H p = some (.ins (G.ca c) dx us) ∧ s.RFs G fs us := by
  cases d with
  | ins c' fs' =>
    obtain ⟨p, dx, us, e, hp, _, r⟩ := q
    cases h
    exact ⟨p, dx, us, e, hp, r⟩
  | ref n =>
    obtain ⟨p, e, a⟩ := q
    unfold insD at h
    dsimp only at h
    split at h
    · rename_i c' fs' hn
      cases h
      obtain ⟨dx, us, hp, r⟩ := R.node n _ p hn a
      exact ⟨p, dx, us, e, hp, r⟩
    · cases h
  | _ => cases h
theorem snd_attr {C : Calls} (hfl : ∀ c f, C.fl c f = true → Cls X.K (G.ca c) ∧ NoAttr X.K (G.ca c) (G.nm f)) {a : Expr} {f : Nat} {pos : Pos} {ma : En → Hm → Res D} (ha : PE X a (rdE G W ma)) (hb : baseOk a = true) :
    PE X (.Attribute a (G.nm f) pos) (rdE G W fun ρ h => (ma ρ h).bind fun x h => attrD C x f h) :=
  PE.imp (pe_fld ha (base_ok hb)) fun σ H Q ⟨s, ρ, e, R, ev, p⟩ => by
    subst e
    refine ⟨s, ρ, rfl, R, ev, (Post.bind p).imp fun v H1 ⟨s1, d, e1, t1, R1, q1, p1⟩ => ?_⟩
    subst e1
    unfold attrD at p1
    dsimp only at p1
    split at p1
    · rename_i c fs hi
      split at p1
      · rename_i hf
        split at p1
        · rename_i y hy
          obtain ⟨p', dx, us, e2, hp, r⟩ := ins_rd R1 q1 hi
          obtain ⟨u, h1, h2⟩ := RFs.get r hy
          obtain ⟨c1, c2⟩ := hfl c f hf
          exact ⟨p', _, dx, us, u, e2, hp, c1, c2, h1, p1.now R1 h2⟩
        · exact p1.elim
      · exact p1.elim
    · exact p1.elim

/-! ### calls -/
theorem run_fnD {CX : CXT} {k : Nat} {f : Addr} {fd : FuncData} {ps : List Str} {sp : Sp} {dvs : List V} {ds : List Value} {E : XK} {pins : List (Addr × Obj)} {σ : St} {H : Hp} {s : Shared} {Q : VK} {us : List Value} {vs : List V} (F : FnOk X.prog X.w X.K X.mg X.base CX k f fd ps sp) (hr : Room k X.A) (hb : Binds X.K fd ps ds) (hd : Vals dvs ds) (hx : PassesAt CX X σ E)
    (I : Inv X pins σ H s) (r : Vals vs us) (h : sp (vs ++ dvs) H Q E) : wpAny (model X.prog X.w) X.A (call (.ref f) us) (EP X pins σ Q) X.xe s := by
  have r2 : Vals (vs ++ dvs) (us ++ ds) := r.append hd
  have hl : (us ++ ds).length = ps.length := by rw [← r2.length]; exact F.len _ _ _ _ h
  refine wpAny_call (codeAny_mono (F.run X.A X.stack s H ⟨us, []⟩ (us ++ ds) (vs ++ dvs) Q E hr I.env0 (hb s us I.kIn hl) r2 h) fun r s' hq => ?_)
  cases r with
  | error e => exact hx pins H s e s' I hq
  | ok fl =>
    cases fl with
    | ret u => exact I.after hq
    | next => exact False.elim hq
    | brk => exact False.elim hq
    | cont => exact False.elim hq
theorem Post.spE {s : Sx} {σ : St} {r : Res D} {Q : VK} (p : Post G W σ (rV G) s r Q) : Post G (fun c d _ H' => WE W σ c d H') [] (rV G) s r Q := by
  cases r <;> exact p
/-- the def of number i runs on values -/
theorem call_ok {C : Calls} {kk i : Nat} {ds : List Cst} (S : Sta G C X.prog X.w X.K X.mg X.base kk) (hh : C.has i = true) (hr : Room kk X.A) (tk : Takes X W) (hd : C.df i ds = true) {pins : List (Addr × Obj)} {st : Shared} {σ : St} {s : Sx} {vs : List V} {us : List Value} {xs : List D} {Q : VK} (I : Inv X pins σ s.H st)
    (r : Vals vs us) (R : REL G s) (q : s.RVs G xs vs) (p : Post G W σ (rV G) s (C.fn i (xs ++ ds.map Cst.d) s.h) Q) : wpAny (model X.prog X.w) X.A (call (.ref (G.fa i)) us) (EP X pins σ Q) X.xe st := by
  obtain ⟨fd, ps, k, hk, ok, hs, hb⟩ := (S.fn i hh).ok
  obtain ⟨ws, rw', b⟩ := hb ds hd
  have qq : s.RVs G (xs ++ ds.map Cst.d) (vs ++ ds.map Cst.v) := RVs.append q (Cst.rvs ds)
  by_cases hl : (vs ++ ds.map Cst.v).length = ps.length
  · exact run_fnD ok (hr.mono hk) b rw' (passAt tk σ) I r ⟨hl, s, _, rfl, R, qq, p.spE⟩
  · rw [hs _ _ (by rw [RVs.length qq]; exact hl)] at p
    exact p.elim

/-- a call of a known thing at a name -/
theorem call_name {x : Str} {u : Value} {p pos : Pos} {es : List Expr} (hg : Gl X x) (hm : X.mg x = some u) (hk : PySem.W.keepIn X.K u = true) (hst : es.all noStar1 = true) (hd : (x == ("__debug__" : Str)) = false) {ms : En → Hm → Res (List D)} (ha : PA X es (rdA G W ms)) (hn : es = [] → ∀ ρ h, ms ρ h = .ok [] h)
    {k : List D → Hm → Res D} {pins : List (Addr × Obj)} {st : Shared} {σ : St} {s : Sx} {ρ : En} {Q : VK} (I : Inv X pins σ s.H st) (R : REL G s) (ev : EV G s ρ σ) (p' : Post G W σ (rV G) s ((ms ρ s.h).bind k) Q)
    (hf : ∀ us st2 s2 vs ds, Inv X pins σ s2.H st2 → Vals vs us → REL G s2 → s2.RVs G ds vs → Post G W σ (rV G) s2 (k ds s2.h) Q → wpAny (model X.prog X.w) X.A (call u us) (EP X pins σ Q) X.xe st2) :
    wpAny (model X.prog X.w) X.A (eval (.Call (.Name x p) es [] pos) X.env) (EP X pins σ Q) X.xe st := by
  refine wpAny_Call_Name_kw (ld_glob I hg hm ?_ hd)
  cases es with
  | nil =>
    rw [hn rfl] at p'
    exact PySem.W.callWith_K0 I.kIn hk (hf [] st s [] [] I .nil R rfl p')
  | cons e es =>
    rw [List.all_cons] at hst
    obtain ⟨h1, h2⟩ := Bool.and_eq_true_iff.mp hst
    exact PySem.W.callWith_K (h₀ := X.base) I.ok.mod.kin hk (args ha I R ev p' fun us st2 s2 vs ds I2 r _ R2 _ q p2 => ⟨I2.kIn, hf us st2 s2 vs ds I2 r R2 q p2⟩) (star_cons h1 es X.env) (back_any h2)
theorem snd_call {C : Calls} {kk i : Nat} {ds : List Cst} (S : Sta G C X.prog X.w X.K X.mg X.base kk) (hh : C.has i = true) (hr : Room kk X.A) (tk : Takes X W) {p pos : Pos} {es : List Expr} (hg : Gl X (G.gn i)) (hm : X.mg (G.gn i) = some (.ref (G.fa i))) (hst : es.all noStar1 = true) (hd : (G.gn i == ("__debug__" : Str)) = false)
    {ms : En → Hm → Res (List D)} (ha : PA X es (rdA G W ms)) (hn : es = [] → ∀ ρ h, ms ρ h = .ok [] h) :
    PE X (.Call (.Name (G.gn i) p) es [] pos) (rdE G W fun ρ h => (ms ρ h).bind fun xs h => if C.df i ds then C.fn i (xs ++ ds.map Cst.d) h else .stuck) := by
  refine ⟨fun pins st σ H Q I ⟨s, ρ, e, R, ev, p⟩ => ?_⟩
  subst e
  refine call_name hg hm (S.fn i hh).kp hst hd ha hn I R ev p fun us st2 s2 vs xs I2 r R2 q p2 => ?_
  split at p2
  · rename_i hdf
    exact call_ok S hh hr tk hdf I2 r R2 q p2
  · exact p2.elim
/-- a method's call -/
theorem snd_meth {C : Calls} {kk m : Nat} (S : Sta G C X.prog X.w X.K X.mg X.base kk) (hr : Room kk X.A) (tk : Takes X W) {o : Expr} {apos pos : Pos} {es : List Expr} (hb : baseOk o = true) (hst : es.all noStar1 = true) (hl : es.length < 30) (hline : (apos.endLine == pos.line) = true)
    {mo : En → Hm → Res D} (ho : PE X o (rdE G W mo)) {ms : En → Hm → Res (List D)} (ha : PA X es (rdA G W ms)) (hn : es = [] → ∀ ρ h, ms ρ h = .ok [] h) :
    PE X (.Call (.Attribute o (G.nm m) apos) es [] pos) (rdE G W fun ρ h => (mo ρ h).bind fun x h => match methD C x m h with
      | some i => (ms ρ h).bind fun xs h => C.fn i (x :: xs) h
      | none => .stuck) := by
  refine ⟨fun pins st σ H Q I ⟨s, ρ, e, R, ev, p⟩ => ?_⟩
  subst e
  refine Call_meth (base_ok hb) (few_of hst hl) hline (one ho I R ev p fun v st1 s1 x dx I1 rx _ R1 ev1 qx p1 pl => ?_)
  cases hm : methD C dx m s1.h with
  | none => rw [hm] at p1; exact p1.elim
  | some i =>
    rw [hm] at p1
    have p1 : Post G W σ (rV G) s1 ((ms ρ s1.h).bind fun xs h => C.fn i (dx :: xs) h) Q := p1
    unfold methD at hm
    split at hm
    · rename_i c fs hi
      split at hm
      · rename_i hf
        obtain ⟨q, dx', us, e2, hp, r⟩ := ins_rd R1 qx hi
        subst e2
        cases rx
        obtain ⟨hh, cl, me⟩ := S.mt c m i hm
        have hno : us.lookup (G.nm m) = none := RFs.none r (by simpa using hf)
        refine getmeth_ok I1 hp cl me hno ?_
        have run : ∀ us2 st2 s2 vs ds, Inv X pins σ s2.H st2 → Vals vs us2 → TR s1 s2 → REL G s2 → s2.RVs G ds vs → Post G W σ (rV G) s2 (C.fn i (dx :: ds)  s2.h) Q → wpAny (model X.prog X.w) X.A (call (.ref (G.fa i)) (.ref q :: us2)) (EP X pins σ Q) X.xe st2 := fun us2 st2 s2 vs ds I2 r2 t2 R2 q2 p2 => by
          have p3 : Post G W σ (rV G) s2 (C.fn i ((dx :: ds) ++ ([] : List Cst).map Cst.d) s2.h) Q := by simpa using p2
          have q3 : s2.RVs G (dx :: ds) (.ref q :: vs) := ⟨_, _, rfl, RV.mono t2 qx, q2⟩
          exact call_ok (us := .ref q :: us2) (vs := .ref q :: vs) S hh hr tk (S.df i) I2 (.cons rfl r2) R2 q3 p3
        cases es with
        | nil =>
          rw [hn rfl] at p1
          exact PySem.W.callWith_K0 (first := [.ref q]) I1.kIn me.kp (run [] st1 s1 [] [] I1 .nil (TR.refl s1) R1 rfl p1)
        | cons e es =>
          rw [List.all_cons] at hst
          obtain ⟨h1, h2⟩ := Bool.and_eq_true_iff.mp hst
          exact PySem.W.callWith_K (first := [.ref q]) (h₀ := X.base) I.ok.mod.kin me.kp (args ha I1 R1 ev1 p1 fun us2 st2 s2 vs ds I2 r2 t2 R2 _ q2 p2 => ⟨I2.kIn, run us2 st2 s2 vs ds I2 r2 t2 R2 q2 p2⟩) (star_cons h1 es X.env) (back_any h2)
      · cases hm
    · cases hm
theorem run_makeD {X : Cx} {CX : CXT} {k : Nat} {f C : Addr} {fd : FuncData} {ps : List Str} {sp : Sp} {dvs : List V} {ds : List Value} {E : XK} {pins : List (Addr × Obj)} {σ : St} {H : Hp} {s : Shared} {Q : VK} {us : List Value} {vs : List V} (M : Mk X.K C f) (F : FnOk X.prog X.w X.K X.mg X.base CX k f fd ps sp) (hr : Room (k + 1) X.A) (hb : Binds X.K fd ps ds) (hd : Vals dvs ds)
    (hx : PassesAt CX X σ E) (I : Inv X pins σ H s) (r : Vals vs us)
    (h : ∀ x dx, H x = none → H dx = none → dx ≠ x → sp (.ref x :: (vs ++ dvs)) (upd (upd H dx (.own x)) x (.ins C dx [])) (fun v H2 => v = .non ∧ Q (.ref x) H2) E) :
    wpAny (model X.prog X.w) X.A (call (.ref C) us) (EP X pins σ Q) X.xe s := by
    have hq := h (s.heap.objs.size + 1) s.heap.objs.size (I.hok.fresh (Nat.le_succ _)) (I.hok.fresh (Nat.le_refl _)) (Nat.ne_of_lt (Nat.lt_succ_self _))
    have I2 := Inv.made (C := C) I
    have r2 : Vals (V.ref (s.heap.objs.size + 1) :: (vs ++ dvs)) (Value.ref (s.heap.objs.size + 1) :: (us ++ ds)) := .cons rfl (r.append hd)
    have hl : (Value.ref (s.heap.objs.size + 1) :: us ++ ds).length = ps.length := by
      have e := r2.length
      rw [F.len _ _ _ _ hq] at e
      exact e.symm
    refine wpAny_call (make_map (f := f) I.kIn M.makes M.init (beq_iff_eq.mp M.fn) (codeAny_mono (F.run _ X.stack _ _ ⟨Value.ref (s.heap.objs.size + 1) :: us, []⟩ (Value.ref (s.heap.objs.size + 1) :: (us ++ ds)) _ _ E (hr.make C us [])
      (I2.env0.make C us []) (hb _ (Value.ref (s.heap.objs.size + 1) :: us) I2.kIn hl) r2 hq) fun r s' hq' => ?_))
    cases r with
    | error e => exact hx pins _ _ e s' I2 hq'
    | ok fl =>
      cases fl with
      | ret u =>
        obtain ⟨v, H', I3, rv, ev, q3⟩ := I2.after hq'
        subst ev
        exact ⟨rv, ⟨V.ref (s.heap.objs.size + 1), H', I3, rfl, q3⟩⟩
      | next => exact False.elim hq'
      | brk => exact False.elim hq'
      | cont => exact False.elim hq'
/-- an instance made -/
theorem make_ok {C : Calls} {kk c i : Nat} {ds : List Cst} (S : Sta G C X.prog X.w X.K X.mg X.base kk) (hr : Room (kk + 1) X.A) (tk : Takes X W) (hi : C.ini c = some i) (hd : C.df i ds = true) {pins : List (Addr × Obj)} {st : Shared} {σ : St} {s : Sx} {vs : List V} {us : List Value} {xs : List D} {Q : VK} (I : Inv X pins σ s.H st)
    (r : Vals vs us) (R : REL G s) (q : s.RVs G xs vs) (p : Post G W σ (rV G) s (makeD C c (xs ++ ds.map Cst.d) s.h) Q) : wpAny (model X.prog X.w) X.A (call (.ref (G.ca c)) us) (EP X pins σ Q) X.xe st := by
  unfold makeD at p
  rw [hi] at p
  dsimp only at p
  obtain ⟨hh, M, _⟩ := S.mkc c i hi
  obtain ⟨fd, ps, k, hk, ok, hs, hb⟩ := (S.fn i hh).ok
  obtain ⟨ws, rw', b⟩ := hb ds hd
  have qq : s.RVs G (xs ++ ds.map Cst.d) (vs ++ ds.map Cst.v) := RVs.append q (Cst.rvs ds)
  by_cases hl : (vs ++ ds.map Cst.v).length + 1 = ps.length
  · -- the new instance
    have hmk : ∀ x dx, s.H x = none → s.H dx = none → dx ≠ x → spOf G ps.length (C.fn i) (.ref x :: (vs ++ ds.map Cst.v)) (upd (upd s.H dx (.own x)) x (.ins (G.ca c) dx [])) (fun v H2 => v = .non ∧ Q (.ref x) H2) (WE W σ) := fun x dx nx ndx ne => by
      have R1 : REL G (s.lay dx (.own x)) := R.lay ndx
      have t1 : TR s (s.lay dx (.own x)) := TR.lay R ndx
      have nx1 : (s.lay dx (.own x)).H x = none := (upd_ne (Ne.symm ne)).trans nx
      have t2 : TR (s.lay dx (.own x)) ((s.lay dx (.own x)).push x (.ins c []) (.ins (G.ca c) dx [])) := TR.push R1 nx1
      have R2 : REL G ((s.lay dx (.own x)).push x (.ins c []) (.ins (G.ca c) dx [])) := R1.push nx1 ⟨dx, [], upd_same, rfl⟩
      refine ⟨by simpa using hl, (s.lay dx (.own x)).push x (.ins c []) (.ins (G.ca c) dx []), .ref s.h.length :: (xs ++ ds.map Cst.d), rfl, R2, ⟨_, _, rfl, ⟨x, rfl, if_pos rfl⟩, RVs.mono (t1.trans t2) qq⟩, ?_⟩
      have p2 := (Post.bind (rel := rV G) (Post.shift (t1.trans t2) p)).spE
      refine p2.imp fun v H2 ⟨s3, d, e3, t3, R3, q3, p3⟩ => ?_
      subst e3
      cases d with
      | non =>
        refine ⟨q3, p3.now R3 ⟨x, rfl, t3.al _ _ (if_pos rfl)⟩⟩
      | _ => exact p3.elim
    exact run_makeD M ok (hr.mono (by omega)) b rw' (passAt tk σ) I r hmk
  · have e : C.fn i (.ref s.h.length :: (xs ++ ds.map Cst.d)) (s.h ++ [.ins c []]) = .stuck := hs _ _ (by
      rw [List.length_cons, RVs.length qq]
      exact hl)
    rw [e] at p
    exact p.elim
theorem snd_make {C : Calls} {kk c : Nat} {ds : List Cst} (S : Sta G C X.prog X.w X.K X.mg X.base kk) (hr : Room (kk + 1) X.A) (tk : Takes X W) {p pos : Pos} {es : List Expr} {i : Nat} (hi : C.ini c = some i) (hg : Gl X (G.cn c)) (hst : es.all noStar1 = true) (hd : (G.cn c == ("__debug__" : Str)) = false)
    {ms : En → Hm → Res (List D)} (ha : PA X es (rdA G W ms)) (hn : es = [] → ∀ ρ h, ms ρ h = .ok [] h) :
    PE X (.Call (.Name (G.cn c) p) es [] pos) (rdE G W fun ρ h => (ms ρ h).bind fun xs h => match C.ini c with
    | some i => if C.df i ds then makeD C c (xs ++ ds.map Cst.d) h else .stuck
    | none => .stuck) := by
  refine ⟨fun pins st σ H Q I ⟨s, ρ, e, R, ev, p⟩ => ?_⟩
  subst e
  obtain ⟨hh, M, hm⟩ := S.mkc c i hi
  refine call_name hg hm M.kp hst hd ha hn I R ev p fun us st2 s2 vs xs I2 r R2 q p2 => ?_
  rw [hi] at p2
  dsimp only at p2
  split at p2
  · rename_i hdf
    exact make_ok S hr tk hi hdf I2 r R2 q p2
  · exact p2.elim
end
end L2.Mini
set_option Elab.async false
set_option linter.all false
set_option maxRecDepth 100000
/-! Mini: sorted over lists of alike tuples. -/
namespace L2.Mini
open PySem PySem.Spec PyProof.Rows L2
section
variable {X : Cx}
theorem vals_each {β : Type} (val : β → V) : ∀ {bs : List β} {us : List Value}, Vals (bs.map val) us → PySem.W.EachIs (fun v b => RelV (val b) v) us bs
  | [], _, r => by cases r; exact .nil
  | b :: bs, _, r => by
    cases r with
    | cons h t => exact .cons h (vals_each val t)
theorem each_vals {β : Type} (val : β → V) : ∀ {bs : List β} {us : List Value}, PySem.W.EachIs (fun v b => RelV (val b) v) us bs → Vals (bs.map val) us
  | _, _, .nil => .nil
  | _, _, .cons h t => .cons h (each_vals val t)
theorem cr_sortedAny {β : Type} (enc : β → PyData) (val : β → V) : CallR X (.builtin "sorted") (fun vs H Q => ∃ (a : Addr) (bs : List β), vs = [V.ref a] ∧ SqL X.K H a (bs.map val) ∧ (∀ b ∈ bs, Dp X.K H (val b) (enc b)) ∧ PySem.W.AllAlike (bs.map enc) ∧ PySem.W.Sortable (bs.map enc) ∧
    (∀ b ∈ bs, X.A.units + 2 + (enc b).depth < cLine) ∧ ∀ p, H p = none → Q (.ref p) (upd H p (.lst ((bs.mergeSort (PySem.W.dataLe false enc)).map val)))) := by
  intro pins s σ H vs us Q I r h
  obtain ⟨a, bs, rfl, hs, hd, hal, hk, hu, q⟩ := h
  obtain ⟨its, rv, hl, hz⟩ := I.list hs
  rw [Vals.ref1 r]
  have e := vals_each val rv
  have er : PySem.W.EachIs (fun v b => ∃ as, Reads s.heap v (enc b) as) its bs := (PySem.W.each_mem e).mono fun v b ⟨h1, h2⟩ => Dp.reads I _ _ _ (hd b h2) h1
  have hz' : bs.length ≤ sizeLine := by rw [List.length_map] at hz; exact hz
  refine PySem.W.sorted_data hl.isList e er hal hk hz' hu fun out hlen ho => ?_
  obtain ⟨ep, he'⟩ := PyProof.Rows.sortedAll_at s.heap its out.toArray
  have hlen2 : ((bs.mergeSort (PySem.W.dataLe false enc)).map val).length ≤ sizeLine := by
    rw [List.length_map, List.length_mergeSort]
    exact hz'
  exact ⟨.ref _, upd H (s.heap.objs.size + 1) (.lst ((bs.mergeSort (PySem.W.dataLe false enc)).map val)), I.laid (t' := s.toks) (fun _ _ => PyProof.Rows.sortedAll_old) (Nat.le_succ _) ⟨hlen2, out, ep, each_vals val ho, he'⟩, rfl, q _ (I.hok.fresh (Nat.le_succ _))⟩
end
section
variable {G : Gx} {s : Sx}
theorem view_pl {h : Hm} {d : D} (e : plainD d = true) : view h d = some (pd d) := viewP_plain e
theorem tup_pd : ∀ {d : D}, isTupC d = true → ∃ x r, pd d = .tuple (x :: r)
  | .tup (x :: r), _ => ⟨pd x, pds r, rfl⟩
  | .tup [], h => by cases h
  | .non, h => by cases h
  | .bl _, h => by cases h
  | .int _, h => by cases h
  | .str _, h => by cases h
  | .lst _, h => by cases h
  | .scr _, h => by cases h
  | .ref _, h => by cases h
  | .ins _ _, h => by cases h
theorem zip_rvs : ∀ {xs : List D} {vs : List V}, s.RVs G xs vs → ∀ b ∈ xs.zip vs, s.RV G b.1 b.2
  | [], _, _, b, hb => by simp at hb
  | x :: xs, vs, r, b, hb => by
    obtain ⟨v, vs', e, h1, h2⟩ := r
    subst e
    rw [List.zip_cons_cons] at hb
    rcases List.mem_cons.mp hb with rfl | hb
    · exact h1
    · exact zip_rvs h2 b hb
theorem rvs_pairs : ∀ {l : List (D × V)}, (∀ b ∈ l, s.RV G b.1 b.2) → s.RVs G (l.map (·.1)) (l.map (·.2))
  | [], _ => rfl
  | b :: l, h => ⟨b.2, l.map (·.2), rfl, h b (List.mem_cons_self ..), rvs_pairs fun c hc => h c (List.mem_cons_of_mem _ hc)⟩
end
end L2.Mini
set_option Elab.async false
set_option linter.all false
set_option maxRecDepth 100000
set_option maxHeartbeats 1000000
/-! Mini, part 7: built-in calls and methods, isinstance, freezing. -/
namespace L2.Mini
open PySem PySem.Spec PyProof.Rows

def Bi.name : Bi → Str
  | .len => "len" | .intOf => "int" | .strOf => "str" | .listOf => "list" | .tupOf => "tuple" | .max1 => "max" | .max2 => "max" | .min2 => "min" | .sum => "sum" | .all => "all" | .sorted => "sorted"
  | .sortedSet => "sorted" | .lenSet => "len" | .revZip => "tuple"
def Bi.val : Bi → Value
  | .len => .builtin "len" | .intOf => .type "int" | .strOf => .type "str" | .listOf => .type "list" | .tupOf => .type "tuple" | .max1 => .builtin "max" | .max2 => .builtin "max" | .min2 => .builtin "min"
  | .sum => .builtin "sum" | .all => .builtin "all" | .sorted => .builtin "sorted"
  | .sortedSet => .builtin "sorted" | .lenSet => .builtin "len" | .revZip => .type "tuple"
/-- a call of the one name alone -/
def Bi.one : Bi → Bool
  | .sortedSet => false | .lenSet => false | .revZip => false | _ => true
theorem Bi.boot (b : Bi) : bootBuiltins b.name = some b.val := by cases b <;> decide +kernel
theorem Bi.nn (b : Bi) : b.name ≠ "__name__" := by cases b <;> decide +kernel
theorem Bi.nd (b : Bi) : (b.name == ("__debug__" : Str)) = false := by cases b <;> decide +kernel
theorem Bi.kind (b : Bi) : (∃ id, b.val = .builtin id) ∨ ∃ T, b.val = .type T := by cases b <;> first | exact .inl ⟨_, rfl⟩ | exact .inr ⟨_, rfl⟩

section
variable {G : Gx} {W : WX} {X : Cx} [KEq G X.K] [WEq G X.w]
theorem ints_rd {s : Sx} : ∀ {ds : List D} {us : List V} {is : List Int}, s.RVs G ds us → allM toI ds = some is → us = is.map V.int
  | [], _, _, r, e => by cases (show _ = [] from r); cases e; rfl
  | d :: ds, _, is, ⟨u, r, e1, a, b⟩, e => by
    subst e1
    unfold allM at e
    split at e
    · rename_i i is' h1 h2
      cases e
      cases d with
      | int j =>
        cases h1
        cases (show u = V.int i from a)
        rw [ints_rd b h2]
        rfl
      | _ => cases h1
    · cases e
theorem bools_rd {s : Sx} : ∀ {ds : List D} {us : List V} {is : List Bool}, s.RVs G ds us → allM toB ds = some is → us = is.map V.bl
  | [], _, _, r, e => by cases (show _ = [] from r); cases e; rfl
  | d :: ds, _, is, ⟨u, r, e1, a, b⟩, e => by
    subst e1
    unfold allM at e
    split at e
    · rename_i i is' h1 h2
      cases e
      cases d with
      | bl j =>
        cases h1
        cases (show u = V.bl i from a)
        rw [bools_rd b h2]
        rfl
      | _ => cases h1
    · cases e
theorem ints_rv {s : Sx} : ∀ is : List Int, s.RVs G (is.map D.int) (is.map V.int)
  | [] => rfl
  | i :: r => ⟨_, _, rfl, rfl, ints_rv r⟩
theorem maxI_is : ∀ {is : List Int} {m : Int}, m ∈ is → (∀ y ∈ is, y ≤ m) → m = maxI is
  | [], _, h, _ => by cases h
  | [x], m, h, _ => by simpa [maxI] using h
  | x :: y :: r, m, h, k => by
    have hm : ∀ {l : List Int}, l ≠ [] → maxI l ∈ l := by
      intro l
      induction l with
      | nil => intro h; exact absurd rfl h
      | cons a l ih =>
        intro _
        cases l with
        | nil => simp [maxI]
        | cons b l =>
          have := ih (by simp)
          simp only [maxI]
          by_cases h : a ≤ maxI (b :: l)
          · rw [Int.max_eq_right h]; exact List.mem_cons_of_mem _ this
          · rw [Int.max_eq_left (by omega)]; exact List.mem_cons_self
    have hle : ∀ {l : List Int}, ∀ y ∈ l, y ≤ maxI l := by
      intro l
      induction l with
      | nil => intro y h; cases h
      | cons a l ih =>
        intro y h
        cases l with
        | nil => simp at h; simp [maxI, h]
        | cons b l =>
          simp only [maxI]
          rcases List.mem_cons.mp h with e | e
          · subst e; exact Int.le_max_left _ _
          · exact Int.le_trans (ih y e) (Int.le_max_right _ _)
    exact Int.le_antisymm (hle m h) (k _ (hm (by simp)))
theorem ins_perm (x : Int) : ∀ l : List Int, (insI x l).Perm (x :: l)
  | [] => .refl _
  | y :: r => by
    unfold insI
    split
    · exact .refl _
    · exact ((ins_perm x r).cons y).trans (.swap x y r)
theorem sort_perm : ∀ l : List Int, (sortI l).Perm l
  | [] => .refl _
  | x :: r => (ins_perm x (sortI r)).trans ((sort_perm r).cons x)
theorem ins_sorted (x : Int) : ∀ {l : List Int}, l.Pairwise (· ≤ ·) → (insI x l).Pairwise (· ≤ ·)
  | [], _ => by simp [insI]
  | y :: r, h => by
    obtain ⟨h1, h2⟩ := List.pairwise_cons.mp h
    unfold insI
    split
    · rename_i hx
      refine List.pairwise_cons.mpr ⟨fun z hz => ?_, h⟩
      rcases List.mem_cons.mp hz with e | e
      · rw [e]; exact hx
      · exact Int.le_trans hx (h1 z e)
    · rename_i hx
      refine List.pairwise_cons.mpr ⟨fun z hz => ?_, ins_sorted x h2⟩
      rcases List.mem_cons.mp ((ins_perm x r).mem_iff.mp hz) with e | e
      · rw [e]; omega
      · exact h1 z e
theorem sort_sorted : ∀ l : List Int, (sortI l).Pairwise (· ≤ ·)
  | [] => .nil
  | x :: r => ins_sorted x (sort_sorted r)
theorem sorted_unique : ∀ {a b : List Int}, a.Perm b → a.Pairwise (· ≤ ·) → b.Pairwise (· ≤ ·) → a = b
  | [], b, p, _, _ => (List.nil_perm.mp p).symm ▸ rfl
  | x :: a, b, p, ha, hb => by
    cases b with
    | nil => exact absurd p.symm (by simp)
    | cons y b =>
      obtain ⟨a1, a2⟩ := List.pairwise_cons.mp ha
      obtain ⟨b1, b2⟩ := List.pairwise_cons.mp hb
      have hx : x ≤ y := by
        rcases List.mem_cons.mp (p.mem_iff.mpr (List.mem_cons_self (a := y) (l := b))) with e | e
        · omega
        · exact a1 y e
      have hy : y ≤ x := by
        rcases List.mem_cons.mp (p.mem_iff.mp (List.mem_cons_self (a := x) (l := a))) with e | e
        · omega
        · exact b1 x e
      have e : x = y := by omega
      subst e
      rw [sorted_unique (List.perm_cons x |>.mp p) a2 b2]
theorem sorted_is {ns ns' : List Int} (p : ns'.Perm ns) (h : ns'.Pairwise (· ≤ ·)) : ns' = sortI ns := sorted_unique (p.trans (sort_perm ns).symm) h (sort_sorted ns)

section
variable {pins : List (Addr × Obj)} {st : Shared} {σ : St} {s : Sx} {us : List Value} {Q : VK} {b : Bi} {mk : Bool}
theorem seq_rd (R : REL G s) {d : D} {v : V} {ys : List D} (a : s.RV G d v) (e : getS s.h d = some ys) : ∃ p us, v = .ref p ∧ (SqL X.K s.H p us ∨ SqT X.K s.H p us) ∧ s.RVs G ys us := getS_rd X.K R a e
theorem intsD_rd (R : REL G s) {d : D} {v : V} {is : List Int} (a : s.RV G d v) (e : intsD d s.h = some is) : ∃ p, v = .ref p ∧ SqL X.K s.H p (is.map V.int) := by
  unfold intsD at e
  cases hy : getL s.h d with
  | none => rw [hy] at e; cases e
  | some ys =>
    rw [hy] at e
    obtain ⟨p', ws, rfl, h, r2⟩ := getL_rd X.K R a hy
    have e2 := ints_rd r2 e
    subst e2
    exact ⟨p', rfl, h⟩
theorem boolsD_rd (R : REL G s) {d : D} {v : V} {is : List Bool} (a : s.RV G d v) (e : boolsD d s.h = some is) : ∃ p, v = .ref p ∧ SqL X.K s.H p (is.map V.bl) := by
  unfold boolsD at e
  cases hy : getL s.h d with
  | none => rw [hy] at e; cases e
  | some ys =>
    rw [hy] at e
    obtain ⟨p', ws, rfl, h, r2⟩ := getL_rd X.K R a hy
    have e2 := bools_rd r2 e
    subst e2
    exact ⟨p', rfl, h⟩
theorem call_str_str : CallR X (.type "str") (fun xs H Q => ∃ x, xs = [.str x] ∧ Q (.str x) H) := by
  intro pins s σ H xs us Q I r h
  obtain ⟨x, rfl, q⟩ := h
  obtain ⟨u, rfl, t, rfl⟩ := vals1 r
  exact PySem.P.str_of_str ⟨.str _, H, I, ⟨_, rfl⟩, q⟩
theorem bi1_ok (hu : X.A.units + 65 < cLine) (h1 : b.one = true) (hc : b.hot = false → X.calm = true) {d : D} {v : V} (I : Inv X pins σ s.H st) (r : Vals [v] us) (R : REL G s) (a : s.RV G d v)
    (p : Post G W σ (rV G) s (bi1 b mk d s.h) Q) : wpAny (model X.prog X.w) X.A (call b.val us) (EP X pins σ Q) X.xe st := by
  have go : ∀ {f : Value} {t : List V → Hp → VK → Prop}, CallR X f t → t [v] s.H Q → wpAny (model X.prog X.w) X.A (call f us) (EP X pins σ Q) X.xe st := fun h k => h pins st σ s.H [v] us Q I r k
  cases b with
  | len =>
    replace p : Post G W σ (rV G) s (lenD d s.h) Q := p
    unfold lenD at p
    split at p
    · rename_i x
      split at p
      · rename_i hz
        exact go call_len_str ⟨x, by rw [show v = V.str x from a], by rw [big_eq]; exact hz, p.now R rfl⟩
      · exact p.elim
    · split at p
      · rename_i ys hy
        obtain ⟨p', ws, rfl, h, r2⟩ := seq_rd (X := X) R a hy
        refine go call_len_seq ⟨p', ws, rfl, h, ?_⟩
        rw [← RVs.length r2]
        exact p.now R rfl
      · exact p.elim
  | intOf =>
    replace p : Post G W σ (rV G) s (intD d s.h) Q := p
    unfold intD at p
    split at p
    · rename_i i
      exact go call_int1 (.inl ⟨i, by rw [show v = V.int i from a], p.now R rfl⟩)
    · rename_i k
      exact go call_int1 (.inr ⟨k, by rw [show v = V.bl k from a], p.now R rfl⟩)
    · rename_i x
      split at p
      · rename_i hz
        split at p
        · rename_i n hn
          exact go call_int_str ⟨x, n, by rw [show v = V.str x from a], hn, hz, p.now R rfl⟩
        · exact p.elim
      · exact p.elim
    · exact p.elim
  | strOf =>
    replace p : Post G W σ (rV G) s (strD d s.h) Q := p
    unfold strD at p
    split at p
    · rename_i i
      split at p
      · rename_i hz
        exact go call_str_int ⟨i, by rw [show v = V.int i from a], hz, p.now R rfl⟩
      · exact p.elim
    · rename_i x
      exact go call_str_str ⟨x, by rw [show v = V.str x from a], p.now R rfl⟩
    · exact p.elim
  | listOf =>
    replace p : Post G W σ (rV G) s (listD mk d s.h) Q := p
    unfold listD at p
    split at p
    · rename_i ys hy
      obtain ⟨p', ws, rfl, h, r2⟩ := seq_rd (X := X) R a hy
      exact go call_list_of ⟨p', ws, rfl, h, fun l hl => lay_lst R hl r2 p⟩
    · exact p.elim
  | tupOf =>
    replace p : Post G W σ (rV G) s (tupleD d s.h) Q := p
    unfold tupleD at p
    split at p
    · rename_i ys hy
      cases d with
      | tup zs =>
        cases hy
        obtain ⟨p', ws, rfl, h, k, r2⟩ := a
        exact go call_tuple_of ⟨p', ws, rfl, .inr ⟨.inl h, p.now R ⟨p', ws, rfl, h, k, r2⟩⟩⟩
      | lst zs =>
        obtain ⟨p', ws, rfl, h, r2⟩ := getL_rd X.K R a hy
        exact go call_tuple_of ⟨p', ws, rfl, .inl ⟨h, fun l hl => lay_tup R hl r2 p⟩⟩
      | ref n =>
        obtain ⟨p', ws, rfl, h, r2⟩ := getL_rd X.K R a hy
        exact go call_tuple_of ⟨p', ws, rfl, .inl ⟨h, fun l hl => lay_tup R hl r2 p⟩⟩
      | scr n =>
        obtain ⟨p', ws, rfl, h, r2⟩ := getL_rd X.K R a hy
        exact go call_tuple_of ⟨p', ws, rfl, .inl ⟨h, fun l hl => lay_tup R hl r2 p⟩⟩
      | _ => cases hy
    · exact p.elim
  | max1 =>
    replace p : Post G W σ (rV G) s (max1D d s.h) Q := p
    unfold max1D at p
    split at p
    · rename_i i is hi
      obtain ⟨p', rfl, h⟩ := intsD_rd (X := X) R a hi
      refine go (cr_max (hc rfl)) ⟨p', i :: is, rfl, h, by simp, fun m hm hle => ?_⟩
      rw [maxI_is hm hle]
      exact p.now R rfl
    · exact p.elim
  | sum =>
    replace p : Post G W σ (rV G) s (sumD d s.h) Q := p
    unfold sumD at p
    split at p
    · rename_i is hi
      obtain ⟨p', rfl, h⟩ := intsD_rd (X := X) R a hi
      exact go (cr_sum (hc rfl)) ⟨p', is, rfl, h, p.now R rfl⟩
    · exact p.elim
  | all =>
    replace p : Post G W σ (rV G) s (allD d s.h) Q := p
    unfold allD at p
    split at p
    · rename_i is hi
      obtain ⟨p', rfl, h⟩ := boolsD_rd (X := X) R a hi
      exact go (cr_all (hc rfl)) ⟨p', is, rfl, h, p.now R rfl⟩
    · exact p.elim
  | sorted =>
    replace p : Post G W σ (rV G) s (sortedD mk d s.h) Q := p
    unfold sortedD at p
    split at p
    · rename_i is hi
      obtain ⟨p', rfl, h⟩ := intsD_rd (X := X) R a hi
      refine go cr_sortedI ⟨p', is, rfl, h, fun ns' l hp hs hl => ?_⟩
      rw [sorted_is hp hs]
      exact lay_lst R hl (ints_rv _) p
    · split at p
      · rename_i ys hy
        split at p
        · rename_i hso
          obtain ⟨p', ws, rfl, h, r2⟩ := getL_rd X.K R a hy
          obtain ⟨s1, s2⟩ := Bool.and_eq_true_iff.mp hso
          have hb := zip_rvs r2
          have e1 : (ys.zip ws).map (·.2) = ws := List.map_snd_zip (by rw [RVs.length r2]; exact Nat.le_refl _)
          have e2 : (ys.zip ws).map (·.1) = ys := List.map_fst_zip (by rw [RVs.length r2]; exact Nat.le_refl _)
          have hm : ∀ b ∈ ys.zip ws, isTupC b.1 = true ∧ plainD b.1 = true ∧ (pd b.1).depth ≤ 60 := fun b hb => by
            have := List.all_eq_true.mp s1 b.1 (by rw [← e2]; exact List.mem_map.mpr ⟨b, hb, rfl⟩)
            simpa only [Bool.and_eq_true, decide_eq_true_eq, and_assoc] using this
          refine go (cr_sortedAny (fun b : D × V => pd b.1) (·.2)) ⟨p', ys.zip ws, rfl, by rw [e1]; exact h, fun b hm2 => view_dp X.K R (hb b hm2) (view_pl (hm b hm2).2.1), ?_, .inl fun d hd => ?_, fun b hm2 => ?_, fun l hl => ?_⟩
          · intro d hd d' hd'
            obtain ⟨b, hb1, rfl⟩ := List.mem_map.mp hd
            obtain ⟨b', hb2, rfl⟩ := List.mem_map.mp hd'
            exact List.all_eq_true.mp (List.all_eq_true.mp s2 b.1 (by rw [← e2]; exact List.mem_map.mpr ⟨b, hb1, rfl⟩)) b'.1 (by rw [← e2]; exact List.mem_map.mpr ⟨b', hb2, rfl⟩)
          · obtain ⟨b, hb1, rfl⟩ := List.mem_map.mp hd
            exact tup_pd (hm b hb1).1
          · have := (hm b hm2).2.2
            omega
          · have e3 : sortT ys = ((ys.zip ws).mergeSort (PySem.W.dataLe false fun b : D × V => pd b.1)).map (·.1) := by
              have e4 := List.map_mergeSort (f := fun b : D × V => b.1) (r := PySem.W.dataLe false fun b : D × V => pd b.1) (s := PySem.W.dataLe false pd) (l := ys.zip ws) fun _ _ _ _ => rfl
              rw [e2] at e4
              exact e4.symm
            rw [e3] at p
            exact lay_lst R hl (rvs_pairs fun b hb2 => hb b (List.mem_mergeSort.mp hb2)) p
        · exact p.elim
      · exact p.elim
  | sortedSet => exact absurd h1 Bool.false_ne_true
  | lenSet => exact absurd h1 Bool.false_ne_true
  | revZip => exact absurd h1 Bool.false_ne_true
  | max2 => exact p.elim
  | min2 => exact p.elim
theorem bi2_ok (hc : b.hot = false → X.calm = true) {d1 d2 : D} {v1 v2 : V} (I : Inv X pins σ s.H st) (r : Vals [v1, v2] us) (R : REL G s) (a1 : s.RV G d1 v1) (a2 : s.RV G d2 v2)
    (p : Post G W σ (rV G) s (bi2 b d1 d2 s.h) Q) : wpAny (model X.prog X.w) X.A (call b.val us) (EP X pins σ Q) X.xe st := by
  have go : ∀ {f : Value} {t : List V → Hp → VK → Prop}, CallR X f t → t [v1, v2] s.H Q → wpAny (model X.prog X.w) X.A (call f us) (EP X pins σ Q) X.xe st := fun h k => h pins st σ s.H [v1, v2] us Q I r k
  unfold bi2 at p
  split at p
  · unfold two2 at p
    split at p
    · rename_i i j
      exact go (call_max2 (hc rfl)) ⟨i, j, by rw [show v1 = V.int i from a1, show v2 = V.int j from a2], p.now R rfl⟩
    · exact p.elim
  · unfold two2 at p
    split at p
    · rename_i i j
      exact go (call_min2 (hc rfl)) ⟨i, j, by rw [show v1 = V.int i from a1, show v2 = V.int j from a2], p.now R rfl⟩
    · exact p.elim
  · exact p.elim
theorem biCall_ok (hu : X.A.units + 65 < cLine) (h1 : b.one = true) (hc : b.hot = false → X.calm = true) {vs : List V} {xs : List D} (I : Inv X pins σ s.H st) (r : Vals vs us) (R : REL G s) (q : s.RVs G xs vs)
    (p : Post G W σ (rV G) s (biCall b mk xs s.h) Q) : wpAny (model X.prog X.w) X.A (call b.val us) (EP X pins σ Q) X.xe st := by
  unfold biCall at p
  split at p
  · obtain ⟨u, _, e, a, e2⟩ := q
    subst e; cases (show _ = [] from e2)
    exact bi1_ok hu h1 hc I r R a p
  · obtain ⟨u, _, e, a, u2, _, e2, a2, e3⟩ := q
    subst e; subst e2; cases (show _ = [] from e3)
    exact bi2_ok hc I r R a a2 p
  · exact p.elim
end
theorem snd_bi (hu : X.A.units + 65 < cLine) {b : Bi} {mk : Bool} (h1 : b.one = true) (hc : b.hot = false → X.calm = true) {p pos : Pos} {es : List Expr} (hg : Gl X b.name) (hm : X.mg b.name = none) (hst : es.all noStar1 = true)
    {ms : En → Hm → Res (List D)} (ha : PA X es (rdA G W ms)) (hn : es ≠ []) :
    PE X (.Call (.Name b.name p) es [] pos) (rdE G W fun ρ h => (ms ρ h).bind fun xs h => biCall b mk xs h) := by
  refine ⟨fun pins st σ H Q I ⟨s, ρ, e, R, ev, p⟩ => ?_⟩
  subst e
  refine wpAny_Call_Name_kw (ld_blt I hg hm b.boot ?_ b.nn b.nd)
  cases es with
  | nil => exact absurd rfl hn
  | cons e es =>
    rw [List.all_cons] at hst
    obtain ⟨s1, s2⟩ := Bool.and_eq_true_iff.mp hst
    have go := args ha (pos := pos) I R ev p (Qf := fun us st2 => wpAny (model X.prog X.w) X.A (call b.val us) (EP X pins σ Q) X.xe st2) fun us st2 s2 vs xs I2 r _ R2 _ q p2 => biCall_ok hu h1 hc I2 r R2 q p2
    rcases b.kind with ⟨id, hv⟩ | ⟨T, hv⟩
    · rw [hv] at go ⊢
      exact PyProof.Rows.callWith_builtin1 go (star_cons s1 es X.env) (back_any s2)
    · rw [hv] at go ⊢
      exact PyProof.Rows.callWith_type1 go (star_cons s1 es X.env) (back_any s2)
end
end L2.Mini
set_option Elab.async false
set_option linter.all false
set_option maxRecDepth 100000
set_option maxHeartbeats 1000000
/-! Mini, part 8: built-in methods, isinstance, freezing. -/
namespace L2.Mini
open PySem PySem.Spec PyProof.Rows

def Bm.name : Bm → Str
  | .append => "append" | .pop => "pop" | .popAt => "pop" | .insert => "insert" | .clear => "clear" | .index => "index"
  | .get => "get" | .setdefault => "setdefault" | .update => "update" | .split => "split" | .join => "join" | .replace => "replace" | .isdigit => "isdigit"
def Bm.id : Bm → String
  | .append => "list.append" | .pop => "list.pop" | .popAt => "list.pop" | .clear => "list.clear" | .index => "list.index" | .insert => "list.insert" | .get => "dict.get" | .setdefault => "dict.setdefault" | .update => "dict.update" | .split => "str.split" | .join => "str.join" | _ => ""
section
variable {G : Gx} {W : WX} {X : Cx} [KEq G X.K] [WEq G X.w]
theorem nodeL_rd {s : Sx} {x : D} {v : V} {n : Nat} {xs : List D} (R : REL G s) (q : s.RV G x v) (h : nodeL x s.h = some (n, xs)) : ∃ p us, v = .ref p ∧ s.am n = some p ∧ s.h[n]? = some (.lst xs) ∧ s.H p = some (.lst us) ∧ s.RVs G xs us := by
  unfold nodeL at h
  split at h
  · split at h
    · rename_i m _ ys hn
      cases h
      obtain ⟨p, e, a⟩ := q
      obtain ⟨us, h1, h2⟩ := R.node _ _ p hn a
      exact ⟨p, us, e, a, hn, h1, h2⟩
    · cases h
  · cases h
/-- a list node is written -/
theorem put_lst {s : Sx} {σ : St} {Q : VK} {n : Nat} {p : Addr} {xs ys : List D} {ws : List V} {d : D} {v : V} (R : REL G s) (a : s.am n = some p) (hn : s.h[n]? = some (.lst xs)) (r : s.RVs G ys ws) (rv : s.RV G d v)
    (q : Post G W σ (rV G) s (.ok d (s.h.set n (.lst ys))) Q) : Q v (upd s.H p (.lst ws)) := by
  have t : TR s (s.put n p (.lst ys) (.lst ws)) := TR.put R hn (by intro z; cases z) a
  exact q.at (s.put n p (.lst ys) (.lst ws)) rfl t (R.put hn (by intro z; cases z) a ⟨ws, upd_same, RVs.mono t r⟩) (RV.mono t rv)
section
variable {pins : List (Addr × Obj)} {st : Shared} {σ : St} {s : Sx} {us : List Value} {Q : VK} {b : Bm} {mk : Bool} {x y : D} {v w' : V} {u : Value}
theorem strs_rd {s : Sx} : ∀ {ds : List D} {us : List V} {is : List Str}, s.RVs G ds us → allM toS ds = some is → us = is.map V.str
  | [], _, _, r, e => by cases (show _ = [] from r); cases e; rfl
  | d :: ds, _, is, ⟨u, r, e1, a, b⟩, e => by
    subst e1
    unfold allM at e
    split at e
    · rename_i i is' h1 h2
      cases e
      cases d with
      | str j =>
        cases h1
        cases (show u = V.str i from a)
        rw [strs_rd b h2]
        rfl
      | _ => cases h1
    · cases e
theorem strs_rv {s : Sx} : ∀ ys : List Str, s.RVs G (ys.map D.str) (ys.map V.str)
  | [] => rfl
  | y :: ys => ⟨_, _, rfl, rfl, strs_rv ys⟩
theorem firstEq_is {d : PyData} : ∀ {l : List PyData} {j : Nat}, firstEq d l = some j → (∃ z, l[j]? = some z ∧ PyData.eqv z d = true) ∧ ∀ (m : Nat) (z' : PyData), m < j → l[m]? = some z' → PyData.eqv z' d = false
  | [], _, h => by cases h
  | z :: r, j, h => by
    unfold firstEq at h
    split at h
    · rename_i hz
      cases h
      exact ⟨⟨z, rfl, hz⟩, fun m z' hm => absurd hm (Nat.not_lt_zero _)⟩
    · rename_i hz
      cases e : firstEq d r with
      | none => rw [e] at h; cases h
      | some k =>
        rw [e] at h
        obtain rfl : k + 1 = j := by simpa using h
        obtain ⟨⟨z2, h1, h2⟩, h3⟩ := firstEq_is e
        refine ⟨⟨z2, by simpa using h1, h2⟩, fun m z' hm h4 => ?_⟩
        cases m with
        | zero => simp at h4; subst h4; simpa using hz
        | succ m => exact h3 m z' (by omega) (by simpa using h4)
theorem seq_ix {n : Nat} {i : Int} {j : Nat} (h : ixN n i = some j) : seqIndex? i n = some j := (ixN_seq h).1
theorem ix_small {n : Nat} {i : Int} {j : Nat} (h : ixN n i = some j) (hz : n ≤ sizeLine) : -(2 ^ 63) ≤ i ∧ i < 2 ^ 63 := by
  obtain ⟨_, _, h1, h2⟩ := ixN_seq h
  have hl := line63
  omega
theorem RKs.merge {s : Sx} : ∀ {more : List (Mini.D × Mini.D)} {ms : List (Key × V)}, s.RKs G more ms → ∀ {acc : List (Mini.D × Mini.D)} {as : List (Key × V)}, s.RKs G acc as → s.RKs G (more.foldl (fun acc p => dput acc p.1 p.2) acc) (mergeK as ms)
  | [], _, h, _, _, h2 => by cases h; exact h2
  | (_, _) :: _, _, ⟨kk, u, r, e, hk, a, b⟩, _, _, h2 => by
    subst e
    exact RKs.merge b (RKs.put hk a h2)
theorem d_update {X : Cx} {pins : List (Addr × Obj)} {σ : St} {H : Hp} {s : Shared} {a b : Addr} {A : Around} {E : Value → Shared → Prop} {kvs more : List (Key × V)} {Q : Value → Shared → Prop} (I : Inv X pins σ H s) (e : H a = some (.dK kvs)) (e2 : H b = some (.dK more)) (hab : a ≠ b) (hl : kvs.length + more.length ≤ sizeLine)
    (h : ∀ s', Inv X pins σ (upd H a (.dK (mergeK kvs more))) s' → Q .none s') : wpAny (model X.prog X.w) A (call (.builtin "dict.update") [.ref a, .ref b]) Q E s := by
  obtain ⟨z, hd, vs, rel, dd⟩ := dk_of I.hok e
  obtain ⟨z2, hd2, ws, rel2, dd2⟩ := dk_of I.hok e2
  refine call_meetsIn PySem.F.slot_dict_update dd.typeIs PySem.F.entry_dict_update (PySem.F.args_dict_update_2 _ _) (meets_dict_update (mixKind X.prog X.w) a b hab hd2) ⟨vs, ws, dd, dd2, by rw [← rel.length, ← rel2.length]; exact hl, fun h' dd' _ hs => h _ ?_⟩
  have he : ∃ q, h'.get? a = some q := let ⟨q, _, _, hq, _⟩ := dd'; ⟨q, hq⟩
  exact d_write (t' := s.toks) I (by rw [e]; exact True.intro) hs he (dk_new (Nat.le_trans (length_mergeK more kvs) hl) hd (KV.merge rel2 rel) dd')
theorem bm0_ok (I : Inv X pins σ s.H st) (rx : RelV v u) (R : REL G s) (qx : s.RV G x v) (p : Post G W σ (rV G) s (bm0 b x s.h) Q) :
    wpAny (model X.prog X.w) X.A (call (.builtin b.id) [u]) (EP X pins σ Q) X.xe st := by
  cases b with
  | pop =>
    refine mt_pop pins st σ s.H v [] u [] Q I rx .nil ?_
    replace p : Post G W σ (rV G) s (popD x s.h) Q := p
    unfold popD at p
    split at p
    · rename_i n xs hx
      obtain ⟨q, ws, rfl, a, hn, h1, h2⟩ := nodeL_rd R qx hx
      split at p
      · rename_i d hd
        have e := RVs.length h2
        obtain ⟨w2, h3, h4⟩ := RVs.get h2 hd
        refine ⟨q, ws, w2, rfl, rfl, h1, by rw [← e]; exact h3, put_lst R a hn ?_ h4 p⟩
        have e1 : xs.dropLast = xs.take (xs.length - 1) := by simp [List.dropLast_eq_take]
        have e2 : ws.dropLast = ws.take (ws.length - 1) := by simp [List.dropLast_eq_take]
        rw [e1, e2, e]
        exact RVs.take _ h2
      · exact p.elim
    · exact p.elim
  | clear =>
    refine mt_clear pins st σ s.H v [] u [] Q I rx .nil ?_
    replace p : Post G W σ (rV G) s (clearD x s.h) Q := p
    unfold clearD at p
    split at p
    · rename_i n xs hx
      obtain ⟨q, ws, rfl, a, hn, h1, h2⟩ := nodeL_rd R qx hx
      exact ⟨q, ws, rfl, rfl, h1, put_lst R a hn (show s.RVs G [] [] from rfl) (show s.RV G .non .non from rfl) p⟩
    · exact p.elim
  | _ => exact p.elim
theorem bm1_ok (hu : X.A.units + 65 < cLine) {u2 : Value} (I : Inv X pins σ s.H st) (rx : RelV v u) (ry : RelV w' u2) (R : REL G s) (qx : s.RV G x v) (qy : s.RV G y w') (p : Post G W σ (rV G) s (bm1 b x y s.h) Q) :
    wpAny (model X.prog X.w) X.A (call (.builtin b.id) [u, u2]) (EP X pins σ Q) X.xe st := by
  cases b with
  | split =>
    replace p : Post G W σ (rV G) s (splitD x y s.h) Q := p
    unfold splitD at p
    split at p
    · rename_i a b
      split at p
      · rename_i hc
        cases (show v = V.str a from qx)
        cases (show w' = V.str b from qy)
        refine mt_split pins st σ s.H _ _ _ _ Q I rx (.cons ry .nil) ⟨a, b, rfl, rfl, by simpa using hc.1, by rw [big_eq]; exact hc.2, fun q hq => lay_lst R hq (strs_rv _) p⟩
      · exact p.elim
    · exact p.elim
  | join =>
    replace p : Post G W σ (rV G) s (joinD x y s.h) Q := p
    unfold joinD at p
    split at p
    · rename_i a
      split at p
      · rename_i ys hy
        split at p
        · rename_i hc
          cases (show v = V.str a from qx)
          cases hl : getL s.h y with
          | none => rw [hl] at hy; cases hy
          | some xs =>
            rw [hl] at hy
            obtain ⟨q, us2, rfl, h1, h2⟩ := getL_rd X.K R qy hl
            cases strs_rd h2 hy
            exact mt_join pins st σ s.H _ _ _ _ Q I rx (.cons ry .nil) ⟨a, q, ys, rfl, rfl, .inl h1, hc, p.now R rfl⟩
        · exact p.elim
      · exact p.elim
    · exact p.elim
  | append =>
    refine mt_append pins st σ s.H v [w'] u [u2] Q I rx (.cons ry .nil) ?_
    replace p : Post G W σ (rV G) s (appendD x y s.h) Q := p
    unfold appendD at p
    split at p
    · rename_i n xs hx
      obtain ⟨q, ws, rfl, a, hn, h1, h2⟩ := nodeL_rd R qx hx
      split at p
      · rename_i hz
        exact ⟨q, ws, w', rfl, rfl, h1, by rw [big_eq, ← RVs.length h2]; exact hz, put_lst R a hn (RVs.append h2 (RVs.one qy)) (show s.RV G .non .non from rfl) p⟩
      · exact p.elim
    · exact p.elim
  | update =>
    replace p : Post G W σ (rV G) s (updD x y s.h) Q := p
    unfold updD at p
    split at p
    · rename_i n kvs m more hx hy
      obtain ⟨q, us, rfl, a, hn, h1, h2⟩ := nodeD_rd R qx hx
      obtain ⟨q', ws, rfl, a', hn', h1', h2'⟩ := nodeD_rd R qy hy
      split at p
      · rename_i hc
        obtain ⟨c1, c2⟩ := Bool.and_eq_true_iff.mp hc
        have c1 := of_decide_eq_true c1
        have c2 := of_decide_eq_true c2
        cases (show u = Value.ref q from rx)
        cases (show u2 = Value.ref q' from ry)
        refine d_update I h1 h1' (fun z => c1 (R.inj n m q a (by rw [z]; exact a'))) (by rw [← RKs.length h2, ← RKs.length h2', big_eq]; exact c2) fun s3 I3 => ⟨.non, _, I3, rfl, ?_⟩
        have t : TR s (s.put n q (.dic (more.foldl (fun acc p => dput acc p.1 p.2) kvs)) (.dK (mergeK us ws))) := TR.put R hn (by intro z; cases z) a
        exact Post.at p (s.put n q (.dic (more.foldl (fun acc p => dput acc p.1 p.2) kvs)) (.dK (mergeK us ws))) rfl t (R.put hn (by intro z; cases z) a ⟨_, upd_same, RKs.mono t (RKs.merge h2' h2)⟩) (RV.mono t (show s.RV G .non .non from rfl))
      · exact p.elim
    · exact p.elim
  | popAt =>
    refine mt_popAt pins st σ s.H v [w'] u [u2] Q I rx (.cons ry .nil) ?_
    replace p : Post G W σ (rV G) s (popAtD x y s.h) Q := p
    unfold popAtD at p
    split at p
    · rename_i n xs i hx
      obtain ⟨q, ws, rfl, a, hn, h1, h2⟩ := nodeL_rd R qx hx
      cases (show w' = V.int i from qy)
      split at p
      · rename_i j hj
        split at p
        · rename_i d hd
          have e := RVs.length h2
          obtain ⟨w2, h3, h4⟩ := RVs.get h2 hd
          obtain ⟨z, _⟩ := I.lstM h1
          obtain ⟨b1, b2⟩ := ix_small hj (by rw [e]; exact z)
          exact ⟨q, ws, i, j, w2, rfl, rfl, h1, b1, b2, by rw [← e]; exact seq_ix hj, h3, put_lst R a hn (RVs.eraseIdx _ h2) h4 p⟩
        · exact p.elim
      · exact p.elim
    · exact p.elim
  | index =>
    refine mt_indexD hu pins st σ s.H v [w'] u [u2] Q I rx (.cons ry .nil) ?_
    replace p : Post G W σ (rV G) s (indexD x y s.h) Q := p
    unfold indexD at p
    split at p
    · rename_i ds d h1 h2
      split at p
      · rename_i hs
        obtain ⟨hs1, hs2⟩ := Bool.and_eq_true_iff.mp hs
        split at p
        · rename_i j hj
          obtain ⟨⟨z, e1, e2⟩, e3⟩ := firstEq_is hj
          have dp := view_dp X.K R qx h1
          have hv : ∃ q, v = .ref q := by cases dp; exact ⟨_, rfl⟩
          obtain ⟨q, rfl⟩ := hv
          exact ⟨q, w', d, ds, j, z, rfl, rfl, dp, view_dp X.K R qy h2, hs1, hs2, e1, e2, e3, p.now R rfl⟩
        · exact p.elim
      · exact p.elim
    · exact p.elim
  | get =>
    replace p : Post G W σ (rV G) s (get1D x y s.h) Q := p
    unfold get1D at p
    split at p
    · rename_i n kvs hx
      obtain ⟨q, us, rfl, _, _, h1, h2⟩ := nodeD_rd R qx hx
      split at p
      · rename_i hk
        obtain ⟨k, hk⟩ := keyK_of hk
        cases keyK_rv hk qy
        cases (show u = Value.ref q from rx)
        refine d_get1 (by omega) I (.k h1) ry fun w2 s3 I3 r3 => ⟨_, s.H, I3, r3, p.now R ?_⟩
        have := RKs.get hk h2
        cases h3 : valV us k <;> cases h4 : dget kvs y <;> rw [h3, h4] at this
        · exact rfl
        · exact this.elim
        · exact this.elim
        · exact this
      · exact p.elim
    · exact p.elim
  | _ => exact p.elim
theorem bm2_ok (hu : X.A.units + 65 < cLine) {z : D} {w2 : V} {u2 u3 : Value} (I : Inv X pins σ s.H st) (rx : RelV v u) (ry : RelV w' u2) (rz : RelV w2 u3) (R : REL G s) (qx : s.RV G x v) (qy : s.RV G y w') (qz : s.RV G z w2) (p : Post G W σ (rV G) s (bm2 b x y z s.h) Q) :
    wpAny (model X.prog X.w) X.A (call (.builtin b.id) [u, u2, u3]) (EP X pins σ Q) X.xe st := by
  cases b with
  | get =>
    replace p : Post G W σ (rV G) s (get2D x y z s.h) Q := p
    unfold get2D at p
    split at p
    · rename_i n kvs hx
      obtain ⟨q, us, rfl, _, _, h1, h2⟩ := nodeD_rd R qx hx
      split at p
      · rename_i hk
        obtain ⟨k, hk⟩ := keyK_of hk
        cases keyK_rv hk qy
        cases (show u = Value.ref q from rx)
        refine d_get2 (by omega) I (.k h1) ry rz fun w2 s3 I3 r3 => ⟨_, s.H, I3, r3, p.now R ?_⟩
        have := RKs.get hk h2
        cases h3 : valV us k <;> cases h4 : dget kvs y <;> rw [h3, h4] at this
        · exact qz
        · exact this.elim
        · exact this.elim
        · exact this
      · exact p.elim
    · exact p.elim
  | insert =>
    refine mt_insert pins st σ s.H v [w', w2] u [u2, u3] Q I rx (.cons ry (.cons rz .nil)) ?_
    replace p : Post G W σ (rV G) s (insertD x y z s.h) Q := p
    unfold insertD at p
    split at p
    · rename_i n xs i hx
      obtain ⟨q, ws, rfl, a, hn, h1, h2⟩ := nodeL_rd R qx hx
      cases (show w' = V.int i from qy)
      split at p
      · rename_i hc
        obtain ⟨c1, c2⟩ := Bool.and_eq_true_iff.mp hc
        have c2 := of_decide_eq_true c2
        have e := RVs.length h2
        exact ⟨q, ws, i, w2, rfl, rfl, h1, by rw [big_eq, ← e]; exact of_decide_eq_true c1, c2.1, c2.2, put_lst R a hn (RVs.append (RVs.append (RVs.take _ h2) (RVs.one qz)) (RVs.drop _ h2)) (show s.RV G .non .non from rfl) p⟩
      · exact p.elim
    · exact p.elim
  | setdefault =>
    replace p : Post G W σ (rV G) s (setdD x y z s.h) Q := p
    unfold setdD at p
    split at p
    · rename_i n kvs hx
      obtain ⟨q, us, rfl, a, hn, h1, h2⟩ := nodeD_rd R qx hx
      split at p
      · rename_i hk
        obtain ⟨hk, hl⟩ := Bool.and_eq_true_iff.mp hk
        obtain ⟨k, hk⟩ := keyK_of hk
        cases keyK_rv hk qy
        cases (show u = Value.ref q from rx)
        have hg := RKs.get hk h2
        refine d_setd I h1 ry rz (by rw [← RKs.length h2, big_eq]; exact of_decide_eq_true hl) (fun v2 hv w3 s3 I3 r3 => ⟨v2, s.H, I3, r3, ?_⟩) fun hv w3 s3 I3 r3 => ⟨w2, _, I3, r3, ?_⟩
        · rw [hv] at hg
          cases h4 : dget kvs y with
          | none => rw [h4] at hg; exact hg.elim
          | some d =>
            rw [h4] at hg p
            exact p.now R hg
        · rw [hv] at hg
          cases h4 : dget kvs y with
          | some d => rw [h4] at hg; exact hg.elim
          | none =>
            rw [h4] at p
            have t : TR s (s.put n q (.dic (dput kvs y z)) (.dK (putK us k w2))) := TR.put R hn (by intro z; cases z) a
            exact Post.at p (s.put n q (.dic (dput kvs y z)) (.dK (putK us k w2))) rfl t (R.put hn (by intro z; cases z) a ⟨_, upd_same, RKs.mono t (RKs.put hk qz h2)⟩) (RV.mono t qz)
      · exact p.elim
    · exact p.elim
  | _ => exact p.elim
/-- the receiver's type -/
theorem recv_ok (R : REL G s) (qx : s.RV G x v) (h : recv b x s.h = true) : PlainAttrs b.typ ∧ tyV X.K b.typ v s.H ∧ Slot b.typ b.name b.id ∧ typeOf (.builtin b.id) = Pure.pure (.type "method_descriptor") := by
  have hL : (getL s.h x).isSome = true → PlainAttrs "list" ∧ tyV X.K "list" v s.H := fun h => by
    cases e : getL s.h x with
    | none => rw [e] at h; cases h
    | some xs =>
      obtain ⟨p, us, rfl, h1, _⟩ := getL_rd X.K R qx e
      exact ⟨PySem.F.plainAttrs_list, .inl ⟨rfl, us, h1⟩⟩
  have hD : (nodeD x s.h).isSome = true → tyV X.K "dict" v s.H := fun h => by
    cases e : nodeD x s.h with
    | none => rw [e] at h; cases h
    | some nk =>
      obtain ⟨n, kvs⟩ := nk
      obtain ⟨p, us, rfl, _, _, h1, _⟩ := nodeD_rd R qx e
      exact .inr (.inr (.inl ⟨rfl, .inl ⟨_, h1⟩⟩))
  cases b with
  | get => exact ⟨PySem.F.plainAttrs_dict, hD h, PySem.F.slot_dict_get, PySem.F.type_dict_get⟩
  | setdefault => exact ⟨PySem.F.plainAttrs_dict, hD h, PySem.F.slot_dict_setdefault, PySem.F.type_dict_setdefault⟩
  | update => exact ⟨PySem.F.plainAttrs_dict, hD h, PySem.F.slot_dict_update, PySem.F.type_dict_update⟩
  | append => exact ⟨(hL h).1, (hL h).2, PySem.F.slot_list_append, PySem.F.type_list_append⟩
  | pop => exact ⟨(hL h).1, (hL h).2, PySem.F.slot_list_pop, PySem.F.type_list_pop⟩
  | popAt => exact ⟨(hL h).1, (hL h).2, PySem.F.slot_list_pop, PySem.F.type_list_pop⟩
  | clear => exact ⟨(hL h).1, (hL h).2, PySem.F.slot_list_clear, PySem.F.type_list_clear⟩
  | index => exact ⟨(hL h).1, (hL h).2, PySem.F.slot_list_index, PySem.F.type_list_index⟩
  | insert => exact ⟨(hL h).1, (hL h).2, PySem.F.slot_list_insert, PySem.F.type_list_insert⟩
  | split =>
    cases x <;> first | (cases h; done) | skip
    rename_i a
    cases (show v = V.str a from qx)
    exact ⟨PySem.F.plainAttrs_str, rfl, PySem.F.slot_str_split, PySem.F.type_str_split⟩
  | join =>
    cases x <;> first | (cases h; done) | skip
    rename_i a
    cases (show v = V.str a from qx)
    exact ⟨PySem.F.plainAttrs_str, rfl, PySem.F.slot_str_join, PySem.F.type_str_join⟩
  | _ => cases h
end
theorem snd_bm (hu : X.A.units + 65 < cLine) {b : Bm} {mk : Bool} {o : Expr} {apos pos : Pos} {es : List Expr} (hb : baseOk o = true) (hst : es.all noStar1 = true) (hl : es.length < 30) (hline : (apos.endLine == pos.line) = true)
    {mo : En → Hm → Res D} (ho : PE X o (rdE G W mo)) {ms : En → Hm → Res (List D)} (ha : PA X es (rdA G W ms)) (hn : es = [] → ∀ ρ h, ms ρ h = .ok [] h) :
    PE X (.Call (.Attribute o b.name apos) es [] pos) (rdE G W fun ρ h => (mo ρ h).bind fun x h => if recv b x h then (ms ρ h).bind fun xs h => bmCall b mk x xs h else .stuck) := by
  refine ⟨fun pins st σ H Q I ⟨s, ρ, e, R, ev, p⟩ => ?_⟩
  subst e
  refine wpAny_Call_method_late (base_ok hb) (few_of hst hl) hline rfl (one ho I R ev p fun v st1 s1 x dx I1 rx _ R1 ev1 qx p1 => ?_)
  split at p1
  · rename_i hr
    obtain ⟨pa, ty, sl, hty⟩ := recv_ok (X := X) R1 qx hr
    obtain ⟨hT, hd⟩ := tyV_is I1 rx ty
    refine ⟨b.typ, b.id, pa, sl, hty, hT, hd, ?_⟩
    cases es with
    | nil =>
      rw [hn rfl] at p1
      exact Calls.callWith_builtin rfl (PySem.evalArgs_none (bm0_ok I1 rx R1 qx p1))
    | cons e es =>
      rw [List.all_cons] at hst
      obtain ⟨h1, h2⟩ := Bool.and_eq_true_iff.mp hst
      have go := args ha (pos := pos) I1 R1 ev1 p1 (Qf := fun us st2 => wpAny (model X.prog X.w) X.A (call (.builtin b.id) (v :: us)) (EP X pins σ Q) X.xe st2) fun us st2 s2 vs xs I2 r t2 R2 _ q p2 => by
        have qx2 := RV.mono t2 qx
        unfold bmCall at p2
        split at p2
        · cases (show _ = [] from q)
          cases r
          exact bm0_ok I2 rx R2 qx2 p2
        · obtain ⟨u, _, e, a, e2⟩ := q
          subst e; cases (show _ = [] from e2)
          cases r with
          | cons r1 r2 =>
            cases r2
            exact bm1_ok hu I2 rx r1 R2 qx2 a p2
        · obtain ⟨u, _, e, a, w3, _, e2, a2, e3⟩ := q
          subst e; subst e2; cases (show _ = [] from e3)
          cases r with
          | cons r1 r2 =>
            cases r2 with
            | cons r2 r3 =>
              cases r3
              exact bm2_ok hu I2 rx r1 r2 R2 qx2 a a2 p2
        · exact p2.elim
      rw [star_cons h1] at go ⊢
      refine Calls.callWith_builtin ?_ (Calls.evalArgs_plain go)
      show (false || (backTo pos (starEach es X.env)).any (·.1)) = false
      rw [back_any h2]; rfl
  · exact p1.elim
end
end L2.Mini
set_option Elab.async false
set_option linter.all false
set_option maxRecDepth 100000
set_option maxHeartbeats 1000000
/-! Mini, part 9: isinstance, freezing. -/
namespace L2.Mini
open PySem PySem.Spec PyProof.Rows

/-! ### isinstance -/
def isAns (a b : String) : Bool := a == b || (a == "bool" && b == "int")
def tyNames : List String := ["NoneType", "dict", "bool", "int", "str", "tuple", "list"]
theorem kit_tab : ∀ a ∈ tyNames, ∀ b ∈ tyNames.tail, kitB a b = some (isAns a b) := by decide +kernel
theorem boot_tab : ∀ b ∈ tyNames.tail, bootBuiltins b = some (.type b) := by decide +kernel
theorem nn_tab : ∀ b ∈ tyNames.tail, (b : Str) ≠ "__name__" ∧ ((b : Str) == ("__debug__" : Str)) = false := by decide +kernel
/-- a value's type's name -/
def tyD (x : D) (h : Hm) : Option String := match x with
  | .non => some "NoneType"
  | .bl _ => some "bool"
  | .int _ => some "int"
  | .str _ => some "str"
  | .tup _ => some "tuple"
  | .lst _ => some "list"
  | .scr _ => some "list"
  | .ref n => match h[n]? with
    | some (.lst _) => some "list"
    | some (.dic _) => some "dict"
    | _ => none
  | .ins _ _ => none
theorem tyD_in {x : D} {h : Hm} {t : String} (e : tyD x h = some t) : t ∈ tyNames := by
  unfold tyD at e
  split at e
  case h_8 => split at e <;> cases e <;> decide
  case h_9 => cases e
  all_goals (cases e; decide)
def Ty.names : Ty → List String
  | .int => ["int"] | .bool => ["bool"] | .str => ["str"] | .tuple => ["tuple"] | .list => ["list"] | .listTuple => ["list", "tuple"]
def Ty.ans (t : Ty) (a : String) : Bool := t.names.any (isAns a)
theorem isaD_is {x : D} {t : Ty} {h : Hm} {a : String} (e : tyD x h = some a) : isaD x t h = .ok (.bl (t.ans a)) h := by
  unfold tyD at e
  split at e
  case h_8 n =>
    split at e
    · rename_i hn
      cases e
      unfold isaD
      simp only [hn]
      cases t <;> rfl
    · rename_i hn
      cases e
      unfold isaD
      simp only [hn]
      cases t <;> rfl
    · cases e
  case h_9 => cases e
  all_goals (cases e; cases t <;> rfl)
section
variable {G : Gx} {W : WX} {X : Cx} [KEq G X.K] [WEq G X.w]
theorem tyD_ok {s : Sx} {d : D} {v : V} {a : String} (R : REL G s) (q : s.RV G d v) (e : tyD d s.h = some a) : TyX X.K s.H v (.type a) := by
  unfold tyD at e
  split at e
  · cases e; cases (show v = V.non from q); exact .base .non
  · cases e; cases (show v = V.bl _ from q); exact .base (.bl _)
  · cases e; cases (show v = V.int _ from q); exact .base (.int _)
  · cases e; cases (show v = V.str _ from q); exact .base (.str _)
  · cases e
    obtain ⟨p, us, rfl, h, _, _⟩ := q
    rcases h with h | ⟨o, h⟩
    · exact .base (.tup h)
    · exact .fTuple h
  · cases e
    obtain ⟨p, us, rfl, h, _, _⟩ := q
    rcases h with h | ⟨o, h⟩
    · exact .base (.lst h)
    · exact .base (.frz h)
  · cases e
    obtain ⟨p, us, rfl, h, _⟩ := q
    rcases h with ⟨h | ⟨o, h⟩, _⟩ | h
    · exact .base (.lst h)
    · exact .base (.frz h)
    · obtain ⟨o, its, n, h1, h2, _⟩ := G.klk p us h
      rw [KEq.eq (G := G) (K := X.K)] at h1
      exact .kList h1 h2
  · split at e
    · rename_i n _ xs hn
      cases e
      obtain ⟨p, rfl, a⟩ := q
      obtain ⟨us, h1, _⟩ := R.node _ _ p hn a
      exact .base (.lst h1)
    · rename_i n _ xs hn
      cases e
      obtain ⟨p, rfl, a⟩ := q
      obtain ⟨us, h1, _⟩ := R.node _ _ p hn a
      exact .base (.dK h1)
    · cases e
  · cases e
theorem isaD_ty {s : Sx} {σ : St} {d : D} {t : Ty} {Q : VK} (p : Post G W σ (rV G) s (isaD d t s.h) Q) : ∃ a, tyD d s.h = some a ∧ Post G W σ (rV G) s (.ok (.bl (t.ans a)) s.h) Q := by
  cases e : tyD d s.h with
  | some a => rw [isaD_is e] at p; exact ⟨a, rfl, p⟩
  | none =>
    unfold tyD at e
    split at e
    case h_8 n =>
      split at e
      · cases e
      · cases e
      · rename_i hn hn2
        unfold isaD at p
        dsimp only at p
        split at p
        · rename_i xs h; exact absurd h (hn xs)
        · rename_i xs h; exact absurd h (hn2 xs)
        · exact p.elim
    case h_9 => exact p.elim
    all_goals cases e
theorem snd_isa1 {t : Ty} {T : String} (ht : t.names = [T]) (hT : T ∈ tyNames.tail) {a : Expr} {p pos tp : Pos} (hg : Gl X "isinstance") (hm : X.mg "isinstance" = none) (hgt : Gl X T) (hmt : X.mg T = none) (h1 : noStar1 a = true)
    {ma : En → Hm → Res D} (ha : PE X a (rdE G W ma)) :
    PE X (.Call (.Name "isinstance" p) [a, .Name T tp] [] pos) (rdE G W fun ρ h => (ma ρ h).bind fun x h => isaD x t h) := by
  obtain ⟨n1, n2⟩ := nn_tab T hT
  refine PE.imp (pe_callB call_isi hg hm PyProof.Rows.boot_isinstance (pa_cons ha (pa_cons (pe_bltn (v := .ty T) hgt hmt (boot_tab T hT) rfl n1 n2) pa_nil rfl) (star_cons h1 _ _)) (by decide) (by decide) (star_cons h1 _ _) (back_any (by rfl))) fun σ H Q ⟨s, ρ, e, R, ev, p⟩ => ?_
  subst e
  refine ⟨s, ρ, rfl, R, ev, (Post.bind p).imp fun v H1 ⟨s1, d, e1, t1, R1, q1, p1⟩ => ?_⟩
  subst e1
  obtain ⟨b, hb, p2⟩ := isaD_ty p1
  refine ⟨v, .ty T, .type b, .type T, t.ans b, rfl, .ty T, tyD_ok R1 q1 hb, ?_, p2.now R1 rfl⟩
  rw [kit_ty (kit_tab b (tyD_in hb) T hT)]
  unfold Ty.ans
  rw [ht]
  simp
theorem snd_isa2 {a : Expr} {p pos tp p1 p2 : Pos} {k : Nat} (hg : Gl X "isinstance") (hm : X.mg "isinstance" = none) (hg1 : Gl X "list") (hm1 : X.mg "list" = none) (hg2 : Gl X "tuple") (hm2 : X.mg "tuple" = none) (h1 : noStar1 a = true)
    {ma : En → Hm → Res D} (ha : PE X a (rdE G W ma)) :
    PE X (.Call (.Name "isinstance" p) [a, .Tuple [.Name "list" p1, .Name "tuple" p2] k tp] [] pos) (rdE G W fun ρ h => (ma ρ h).bind fun x h => isaD x .listTuple h) := by
  have htup : PE X (.Tuple [.Name "list" p1, .Name "tuple" p2] k tp) _ := pe_tup (pa_cons (pe_bltn (v := .ty "list") hg1 hm1 (boot_tab "list" (by decide)) rfl) (pa_cons (pe_bltn (v := .ty "tuple") hg2 hm2 (boot_tab "tuple" (by decide)) rfl) pa_nil))
  refine PE.imp (pe_callB call_isiT hg hm PyProof.Rows.boot_isinstance (pa_cons ha (pa_cons htup pa_nil rfl) (star_cons h1 _ _)) (by decide) (by decide) (star_cons h1 _ _) (back_any (by rfl))) fun σ H Q ⟨s, ρ, e, R, ev, p⟩ => ?_
  subst e
  refine ⟨s, ρ, rfl, R, ev, (Post.bind p).imp fun v H1 ⟨s1, d, e1, t1, R1, q1, p1⟩ => ?_⟩
  subst e1
  obtain ⟨b, hb, p2⟩ := isaD_ty p1
  refine ⟨by show 2 ≤ sizeLine; rw [sizeLine_eq]; omega, fun T hT => ?_⟩
  have t2 : TR s1 (s1.lay T (.tup [.ty "list", .ty "tuple"])) := TR.lay R1 hT
  have R2 : REL G (s1.lay T (.tup [.ty "list", .ty "tuple"])) := R1.lay hT
  refine ⟨v, T, [.ty "list", .ty "tuple"], .type b, [.type "list", .type "tuple"], Ty.listTuple.ans b, rfl, upd_same, .cons (.ty _) (.cons (.ty _) .nil), tyD_ok R2 (RV.mono t2 q1) (by exact hb), ?_, p2 (s1.lay T _) _ rfl t2 R2 rfl⟩
  refine kitAny_cons (kit_ty (kit_tab b (tyD_in hb) "list" (by decide))) (fun hf => ?_) (fun ht => ?_)
  · refine kitAny_cons (kit_ty (kit_tab b (tyD_in hb) "tuple" (by decide))) (fun hf2 => ?_) (fun ht => ?_)
    · rw [kitAny_nil]
      show some false = some ([("list" : String), "tuple"].any (isAns b))
      rw [List.any_cons, List.any_cons, hf, hf2]; rfl
    · show [("list" : String), "tuple"].any (isAns b) = true
      rw [List.any_cons, List.any_cons, ht]; simp
  · show [("list" : String), "tuple"].any (isAns b) = true
    rw [List.any_cons, ht]; rfl

/-! ### freezing -/
theorem snd_frz {a : Expr} {ma : En → Hm → Res D} (ha : PE X a (rdE G W ma)) : PE X a (rdE G W fun ρ h => (ma ρ h).bind frzD) :=
  PE.imp ha fun σ H Q ⟨s, ρ, e, R, ev, p⟩ => by
    subst e
    refine ⟨s, ρ, rfl, R, ev, (Post.bind p).imp fun v H1 ⟨s1, d, e1, t1, R1, q1, p1⟩ => ?_⟩
    subst e1
    unfold frzD at p1
    split at p1
    · rename_i n
      obtain ⟨q, rfl, a⟩ := q1
      have t2 : TR s1 (s1.kill n) := TR.kill n
      have hL : ¬ (s1.kill n).L q := fun z => by
        rcases kill_L z with ⟨_, h | ⟨m, hm, h⟩⟩
        · exact R1.exN n q a h
        · exact hm (R1.inj m n q h a)
      split at p1
      · rename_i xs hn
        split at p1
        · obtain ⟨us, h1, h2⟩ := R1.node n _ q hn a
          exact p1 (s1.kill n) _ rfl t2 (R1.kill n) ⟨q, us, rfl, .inl h1, hL, RVs.mono t2 h2⟩
        · exact p1.elim
      · rename_i c fs hn
        split at p1
        · obtain ⟨dx, us, h1, h2⟩ := R1.node n _ q hn a
          exact p1 (s1.kill n) _ rfl t2 (R1.kill n) ⟨q, dx, us, rfl, h1, hL, RFs.mono t2 h2⟩
        · exact p1.elim
      · exact p1.elim
    · exact p1.now R1 q1
end
end L2.Mini
set_option Elab.async false
set_option linter.all false
set_option maxRecDepth 100000
set_option maxHeartbeats 1000000
/-! Mini: enumerate over a tuple. -/
namespace L2.Mini
open PySem PySem.Spec PyProof.Rows
open PySem.AutoSeq1 (wpAny_loadPart')

theorem meets_enumerate_newT {v : Value} {o : Obj} {H : Heap → Prop} (B : Begins v o H) :
    Meets (Builtin.«enumerate.__new__» ⟨[.type "enumerate", v], []⟩) (fun _ R s => H s.heap ∧
      R (.ok (.ret (.ref (s.heap.push o).objs.size))) { s with heap := (s.heap.push o).push { cls := .type "enumerate", data := .fields #[.none, .bool false, .ref s.heap.objs.size, rawInt 0, .none, .none] } }) :=
  .of_wp fun prog w A R s h => by
    obtain ⟨hp, g, d, tk, os⟩ := s; obtain ⟨h1, h⟩ := h
    have hsub := sub_enumerate
    have q1 : ∀ {A' : Around} {E : Value → Shared → Prop} {Q : Value → Shared → Prop}, Q (.ref hp.objs.size) ⟨hp.push o, g, d, tk, os⟩ → wpAny (model prog w) A' (pyIter v) Q E ⟨hp, g, d, tk, os⟩ :=
      fun q => B.iter prog w _ _ ⟨hp, g, d, tk, os⟩ _ h1 q
    wp_walk using q1
    refine wpAny_stack_any fun st => wpAny_pure ?_
    split
    · rename_i c _ _ _ _ _
      cases (c == Value.type "enumerate")
      · wp_walk using q1
        exact ⟨_, rfl, h⟩
      · wp_walk using q1
        exact ⟨_, rfl, h⟩
    · wp_walk using q1
      exact ⟨_, rfl, h⟩
section
variable {prog : Program} {w : World} {A : Around} {E : Value → Shared → Prop} {s : Shared}
theorem enum_beginsT {v : Value} {o : Obj} {H : Heap → Prop} {Q : Value → Shared → Prop} (B : Begins v o H) (h1 : H s.heap)
    (h : ∀ h', IsEnum h' (s.heap.objs.size + 1) s.heap.objs.size 0 .none → h'.get? s.heap.objs.size = some o → h'.objs.size = s.heap.objs.size + 2 →
      (∀ b o, s.heap.get? b = some o → h'.get? b = some o) → Q (.ref (s.heap.objs.size + 1)) { s with heap := h' }) :
    wpAny (model prog w) A (call (.type "enumerate") [v]) Q E s := by
  refine callType_new F.called_enumerate (by decide) (F.typeCall_enumerate_1 _) (F.newCall_enumerate_1 _) (fun obj => F.args_object_init_2 obj _) F.entry_enumerate_new
    (meets_enumerate_newT B) ⟨h1, ?_⟩
  have hz : (s.heap.push o).objs.size = s.heap.objs.size + 1 := Heap.size_push ..
  show _ ∧ _
  rw [hz]
  have he : IsEnum ((s.heap.push o).push { cls := .type "enumerate", data := .fields #[.none, .bool false, .ref s.heap.objs.size, rawInt 0, .none, .none] }) (s.heap.objs.size + 1) s.heap.objs.size 0 .none := by
    have := Heap.get?_push_size (s.heap.push o) (o := { cls := .type "enumerate", data := .fields #[.none, .bool false, .ref s.heap.objs.size, rawInt 0, .none, .none] }) rfl
    rw [hz] at this; exact this
  refine ⟨⟨_, he, rfl⟩, h _ he (Heap.get?_push_of_some _ (Heap.get?_push_size _ B.free)) (by rw [Heap.size_push, hz]) fun b o x => Heap.get?_push_of_some _ (Heap.get?_push_of_some _ x)⟩
end
def IteT (K : PySem.W.Frag) (a : Addr) : L2.It :=
  ⟨fun i H => ∃ (xs : List V) (x : V), SqT K H a xs ∧ xs[i]? = some x,
    fun i H v H' => ∃ T x, v = .ref T ∧ H T = none ∧ H' = upd H T (.tup [.int (i : Nat), x]) ∧ ∀ xs, SqT K H a xs → xs[i]? = some x, fun i H => ∃ xs : List V, SqT K H a xs ∧ xs.length ≤ i⟩
theorem turn_enumT {P : Program} {w : World} {K : PySem.W.Frag} {elts : List Expr} {kk : Nat} {tpos : Pos} (a e it : Addr) :
    Turn P w K (.Tuple elts kk tpos) (IteT K a) [e, it] e (fun i h => (∃ old, IsEnum h e it ((i : Nat) : Int) old) ∧ h.IsTupleIter it a i ∧ e ≠ it ∧ a ≠ it ∧ e ≠ a) where
  mem := by simp
  obj := fun i h st b hb => by
    obtain ⟨⟨old, he⟩, ⟨o, ho, hc, hd⟩, _⟩ := st
    have e' : b = e ∨ b = it := by simpa using hb
    rcases e' with z | z
    · rw [z]; exact ⟨_, he, fun v q => nomatch q⟩
    · rw [z]; exact ⟨o, ho, fun v q => by rw [hd] at q; cases q⟩
  keep := fun i h h' st k => let ⟨⟨old, he⟩, hi, hne⟩ := st; ⟨⟨old, k e (by simp) _ he⟩, hi.at fun o q => k it (by simp) o q, hne⟩
  item := by
    intro X hP hw hK hc i pins s σ H E I hf st hg
    subst hP hw hK
    obtain ⟨⟨old, he⟩, hit, hne, ha, hea⟩ := st
    obtain ⟨xs, x, hq, hx⟩ := hg
    obtain ⟨its, rv, p, hz⟩ := I.tuple hq
    obtain ⟨u, hu, ru⟩ := rv.get hx
    have hel : e < s.heap.objs.size := Heap.lt_size he
    have hil : it < s.heap.objs.size := by obtain ⟨_, q, _⟩ := hit; exact Heap.lt_size q
    have hlt : i < its.toArray.size := by
      rw [List.size_toArray]
      exact (List.getElem?_eq_some_iff.mp hu).1
    have D := Draws.tuple (prog := X.prog) (w := X.w) (A := X.A.in1) (I.ok.hd hc) it a ha its.toArray
    refine wpAny_pyNext_enum_itemD D he ⟨hit, show s.heap.IsTuple a its.toArray from p⟩ hlt hne (by simp; exact ⟨hne, hea⟩) fun u' h' tk hP ho hit' hT hsz hk => ?_
    have eu : u' = u := by
      have h1 : its.toArray[i]? = some u' := hP
      have h2 : its.toArray[i]? = some u := by simpa using hu
      rw [h1] at h2
      exact Option.some.inj h2
    subst eu
    refine ⟨_, rfl, wpAny_letOwnedTupleGo_enum (s := { s with heap := h', toks := tk + 1 }) ho fun h'' he' sb => ?_⟩
    have hT2 : h''.get? s.heap.objs.size = some { cls := .type "tuple", data := .seq #[.int i tk, u'] } := (sb.2 _ (Nat.ne_of_gt hel)).trans hT
    have new : ObjOk X.prog X.w (upd H s.heap.objs.size (.tup [.int (i : Nat), x])) h'' s.heap.objs.size (.tup [.int (i : Nat), x]) :=
      ⟨by show 2 ≤ sizeLine; decide, [.int i tk, u'], .cons ⟨_, rfl⟩ (.cons ru .nil), ⟨_, hT2, rfl, _, rfl⟩⟩
    have I1 : Inv X pins σ (upd H s.heap.objs.size (.tup [.int (i : Nat), x])) { s with heap := h'', toks := tk + 1 } :=
      I.turnedNew (ch := [e, it]) (fun b ob hb q => (sb.2 b (fun z => hb (by simp [z]))).trans (hk b ob (fun z => hb (by simp [z])) (fun z => hb (by simp [z])) q)) hf (Nat.le_refl _) new
    refine ⟨.ref s.heap.objs.size, _, I1, rfl, ⟨_, x, rfl, I.hok.fresh (Nat.le_refl _), rfl, fun ys hy => by rw [I.tuple_inj hy hq]; exact hx⟩, ⟨⟨u', ?_⟩, hit'.1.at fun o q => (sb.2 it (Ne.symm hne)).trans q, hne, ha, hea⟩, fun b hb => ?_⟩
    · have e1 : ((i + 1 : Nat) : Int) = (i : Int) + 1 := by omega
      rw [e1]; exact he'
    · have hb' : b < s.heap.objs.size := by
        have e' : b = e ∨ b = it := by simpa using hb
        rcases e' with z | z
        · rw [z]; exact hel
        · rw [z]; exact hil
      rw [upd_ne (Nat.ne_of_lt hb')]
      exact (hf b hb).1
  done := by
    intro X hP hw hK hc i pins s σ H E I hf st hg
    subst hP hw hK
    obtain ⟨⟨old, he⟩, hit, hne, ha, hea⟩ := st
    obtain ⟨xs, hq, hx⟩ := hg
    obtain ⟨its, rv, p, hz⟩ := I.tuple hq
    have hl := rv.length
    unfold pyNext
    have hT : s.TypeIs (.ref e) "enumerate" := ⟨_, he, rfl⟩
    refine wpAny_bind (wpAny_attempt (wpAny_callSpecial?_slot (name := Str.ofString "__next__") hT F.slot_enumerate_next
      (wpAny_call_entry F.slot_enumerate_next hT F.entry_enumerate_next ?_ (F.args_enumerate_next_1 _))))
    show wpAny _ _ (field (.ref e) 2 >>= _) _ _ _
    refine wpAny_bind (wpAny_field he rfl (x := .ref it) rfl ?_)
    refine wpAny_bind (wpAny_nextOf_tuple_end (A := X.A.in1) (I.ok.hd hc) hit (show s.heap.IsTuple a its.toArray from p) (by simp; omega) fun h' x he' hx' => ?_)
    obtain ⟨o, ho, hc⟩ := hx'
    refine wpAny_bind (wpAny_isInstance (T := "StopIteration") (b := true) ⟨o, ho, hc⟩ isSubtype_stop ?_)
    exact wpAny_pure ⟨rfl, I.turnedL (t' := s.toks) (ch := [e, it]) (fun b o hb q => he' b o (fun z => hb (by simp [z])) q) hf⟩
  self := fun A i s Q E st h => let ⟨⟨_, he⟩, _⟩ := st; wpAny_pyIter_enum he h
/-- over a list or a tuple -/
def iEnumA (K : PySem.W.Frag) (ta : TA) : TI := fun σ H R => ta σ H fun vs H1 => ∃ a xs, vs = [.ref a] ∧ ((SqL K H1 a xs ∧ R (Ite K a) H1) ∨ (SqT K H1 a xs ∧ R (IteT K a) H1))
theorem pi_enumA {X : Cx} {e : Expr} {ta : TA} {p pos tpos : Pos} {elts : List Expr} {kk : Nat} (hg : Gl X "enumerate") (hm : X.mg "enumerate" = none) (ha : PA X [e] ta) (hs : starEach [e] X.env = [(false, eval e X.env)] := by rfl) :
    PI X (.Tuple elts kk tpos) (.Call (.Name "enumerate" p) [e] [] pos) (iEnumA X.K ta) := by
  refine ⟨fun pins s σ H R I h => ?_⟩
  refine Call_ (ld_blt I hg hm boot_enumerate (PyProof.Rows.callWith_type1 (thn (ha.run pos pins s σ H _ I h) fun us s1 ⟨vs, H1, I1, r1, q1⟩ => ?_) hs rfl))
  obtain ⟨a, xs, ex, q1⟩ := q1
  subst ex
  cases r1 with
  | cons r rr =>
    cases rr
    cases r
    have fresh : ∀ b ∈ [s1.heap.objs.size + 1, s1.heap.objs.size], FpOk X pins H1 b := fun b hb => by
      have e' : b = s1.heap.objs.size + 1 ∨ b = s1.heap.objs.size := by simpa using hb
      have hle : s1.heap.objs.size ≤ b := by
        rcases e' with z | z
        · rw [z]; exact Nat.le_add_right _ _
        · rw [z]; exact Nat.le_refl _
      exact I1.fpOk hle (I1.hok.fresh hle)
    rcases q1 with ⟨hq, q⟩ | ⟨hq, q⟩
    · obtain ⟨its, rv, p', hz⟩ := I1.list hq
      refine call_enumerate_list p'.isList fun h' he hit hsz hk => wpAny_pyIter_enum he ?_
      have I2 : Inv X pins σ H1 { s1 with heap := h' } := I1.kept (t' := s1.toks) hk
      exact ⟨s1.heap.objs.size + 1, [s1.heap.objs.size + 1, s1.heap.objs.size], _, _, H1, rfl, I2, turn_enum a (s1.heap.objs.size + 1) s1.heap.objs.size, ⟨⟨.none, he⟩, hit, Nat.succ_ne_self _⟩, fresh, q⟩
    · obtain ⟨its, rv, p', hz⟩ := I1.tuple hq
      have hlt : a < s1.heap.objs.size := by obtain ⟨o, ho, _⟩ := id p'; exact Heap.lt_size ho
      refine enum_beginsT (begins_tuple a its.toArray) (show s1.heap.IsTuple a its.toArray from p') fun h' he hit hsz hk => wpAny_pyIter_enum he ?_
      have I2 : Inv X pins σ H1 { s1 with heap := h' } := I1.kept (t' := s1.toks) hk
      exact ⟨s1.heap.objs.size + 1, [s1.heap.objs.size + 1, s1.heap.objs.size], _, _, H1, rfl, I2, turn_enumT a (s1.heap.objs.size + 1) s1.heap.objs.size, ⟨⟨.none, he⟩, ⟨_, hit, rfl, rfl⟩, Nat.succ_ne_self _, Nat.ne_of_lt hlt, Nat.ne_of_gt (Nat.lt_succ_of_lt hlt)⟩, fresh, q⟩
end L2.Mini
set_option Elab.async false
set_option linter.all false
set_option maxRecDepth 100000
set_option maxHeartbeats 1000000
/-! Mini: zip of a tuple and a list, by the library's zip over iterators of any kind (KE.GoesZip). -/
namespace L2.Mini
open PySem PySem.Spec PyProof.Rows L2

section
variable {prog : Program} {w : World} {A : Around}
/-- a tuple's iterator at its end -/
theorem drawsEndT (hh : A.handled = none) (it t : Addr) (i : Nat) {items : Array Value} (hx : items[i]? = none) :
    Draws prog w A it [it, t] i (fun _ _ => True) (fun j h => j = i ∧ h.IsTupleIter it t i ∧ h.IsTuple t items) where
  live := fun _ _ st => let ⟨o, ho, _⟩ := st.2.1; ⟨o, ho⟩
  frame := fun _ _ _ st hk => ⟨st.1, st.2.1.at fun o e => hk it (by simp) o e, st.2.2.at fun o e => hk t (by simp) o e⟩
  item := fun j s Q E hj st hQ => absurd st.1 (Nat.ne_of_lt hj)
  done := fun s Q E st hE => wpAny_nextOf_tuple_end hh st.2.1 st.2.2 hx hE
theorem drawsEndL (hh : A.handled = none) (it t : Addr) (i : Nat) {items : Array Value} (hx : items[i]? = none) :
    Draws prog w A it [it, t] i (fun _ _ => True) (fun j h => j = i ∧ h.IsListIter it t i ∧ h.IsList t items) where
  live := fun _ _ st => let ⟨o, ho, _⟩ := st.2.1; ⟨o, ho⟩
  frame := fun _ _ _ st hk => ⟨st.1, st.2.1.at fun o e => hk it (by simp) o e, st.2.2.at fun o e => hk t (by simp) o e⟩
  item := fun j s Q E hj st hQ => absurd st.1 (Nat.ne_of_lt hj)
  done := fun s Q E st hE => wpAny_nextOf_list_end hh st.2.1 st.2.2 hx hE
theorem sep_of {z TI TO i1 i2 a b : Addr} (D : ZipApart z TI TO i1 i2 a b) : ZipSep2 z TI TO i1 i2 [i1, a] [i2, b] where
  TIz := D.TIz
  TOz := D.TOz
  TITO := D.TITO
  TIi1 := D.TIi1
  mem1 := by simp
  zf1 := by simp [D.i1z.symm, D.l1z.symm]
  Tf1 := by simp [D.TOi1, D.l1TO.symm]
  TIi2 := D.TIi2
  mem2 := by simp
  zf2 := by simp [D.i2z.symm, D.l2z.symm]
  Tf2 := by simp [D.TOi2, D.l2TO.symm]
  sep1_2 := by simp [D.i12, D.l2i1.symm]
  sep2_1 := by simp [D.i12.symm, D.l1i2.symm]
end
/-- a tuple at a, a list at b, as they stand at each turn -/
def ItzM (K : PySem.W.Frag) (a b : Addr) : L2.It :=
  ⟨fun i H => ∃ (xs ys : List V) (x y : V), SqT K H a xs ∧ SqL K H b ys ∧ xs[i]? = some x ∧ ys[i]? = some y,
    fun i H v H' => ∃ T x y, v = .ref T ∧ H T = none ∧ H' = upd H T (.tup [x, y]) ∧ (∀ xs, SqT K H a xs → xs[i]? = some x) ∧ ∀ ys, SqL K H b ys → ys[i]? = some y,
    fun i H => ∃ xs ys : List V, SqT K H a xs ∧ SqL K H b ys ∧ (xs.length ≤ i ∨ ys.length ≤ i)⟩
theorem turn_zipM {P : Program} {w : World} {K : PySem.W.Frag} {elts : List Expr} {kk : Nat} {tpos : Pos} {a b z TI TO i1 i2 : Addr} (D : ZipApart z TI TO i1 i2 a b) :
    Turn P w K (.Tuple elts kk tpos) (ItzM K a b) [z, TI, TO, i1, i2] z (fun i h => IsZip h z TI TO .none ∧ IsTupOf2 h TI (.ref i1) (.ref i2) ∧ (∃ x y, IsTupOf2 h TO x y) ∧ h.IsTupleIter i1 a i ∧ h.IsListIter i2 b i) where
  mem := by simp
  obj := fun i h st c hc => by
    obtain ⟨hz, hTI, ⟨x, y, hTO⟩, ⟨o1, e1, _, d1⟩, ⟨o2, e2, _, d2⟩⟩ := st
    have e' : c = z ∨ c = TI ∨ c = TO ∨ c = i1 ∨ c = i2 := by simpa using hc
    rcases e' with q | q | q | q | q
    · subst q; exact ⟨_, hz, fun v q => nomatch q⟩
    · subst q; exact ⟨_, hTI, fun v q => nomatch q⟩
    · subst q; exact ⟨_, hTO, fun v q => nomatch q⟩
    · exact ⟨o1, q ▸ e1, fun v q => by rw [d1] at q; cases q⟩
    · exact ⟨o2, q ▸ e2, fun v q => by rw [d2] at q; cases q⟩
  keep := fun i h h' st k => by
    obtain ⟨hz, hTI, ⟨x, y, hTO⟩, h1, h2⟩ := st
    exact ⟨k z (by simp) _ hz, k TI (by simp) _ hTI, ⟨x, y, k TO (by simp) _ hTO⟩, h1.at fun o q => k i1 (by simp) o q, h2.at fun o q => k i2 (by simp) o q⟩
  item := by
    intro X hP hw hK hc i pins s σ H E I hf st hg
    subst hP hw hK
    obtain ⟨hz, hTI, ⟨x0, y0, hTO⟩, h1, h2⟩ := st
    obtain ⟨xs, ys, x, y, hqx, hqy, hx, hy⟩ := hg
    obtain ⟨its, rv, p, _⟩ := I.tuple hqx
    obtain ⟨its2, rv2, p2, _⟩ := I.list hqy
    obtain ⟨u, hu, ru⟩ := rv.get hx
    obtain ⟨u2, hu2, ru2⟩ := rv2.get hy
    have hh : X.A.handled = none := I.ok.hd hc
    have hzl : z < s.heap.objs.size := Heap.lt_size hz
    have l1 : i < its.toArray.size := by
      have := (List.getElem?_eq_some_iff.mp hu).1
      simpa using this
    have l2 : i < its2.toArray.size := by
      have := (List.getElem?_eq_some_iff.mp hu2).1
      simpa using this
    refine wpAny_pyNext_zipD2_item (sep_of D) (Draws.tuple (A := X.A.in1) hh i1 a D.l1i1 its.toArray) (Draws.list (A := X.A.in1) hh i2 b D.l2i2 its2.toArray) hz hTI hTO ⟨h1, p⟩ ⟨h2, p2.isList⟩ l1 l2 fun v1 v2 h' tk q1 q2 z' TO' s1' s2' hT hsz hk => ?_
    obtain rfl : v1 = u := by
      have e1 : its[i]? = some v1 := by simpa using q1
      rw [hu] at e1
      exact (Option.some.inj e1).symm
    obtain rfl : v2 = u2 := by
      have e1 : its2[i]? = some v2 := by simpa using q2
      rw [hu2] at e1
      exact (Option.some.inj e1).symm
    refine ⟨_, rfl, wpAny_letOwnedTupleGo_zip (s := { s with heap := h', toks := tk }) z' fun h'' z'' sb => ?_⟩
    have hT2 : h''.get? s.heap.objs.size = some { cls := .type "tuple", data := .seq #[v1, v2] } := (sb.2 _ (Nat.ne_of_gt hzl)).trans hT
    have new : ObjOk X.prog X.w (upd H s.heap.objs.size (.tup [x, y])) h'' s.heap.objs.size (.tup [x, y]) :=
      ⟨by show 2 ≤ sizeLine; decide, [v1, v2], .cons ru (.cons ru2 .nil), ⟨_, hT2, rfl, _, rfl⟩⟩
    have I1 : Inv X pins σ (upd H s.heap.objs.size (.tup [x, y])) { s with heap := h'', toks := tk } :=
      I.turnedNew (t' := tk) (ch := [z, TI, TO, i1, i2]) (fun c o hb q => (sb.2 c (fun q' => hb (by simp [q']))).trans (hk c o (fun q' => hb (by simp [q'])) (fun q' => hb (by simp [q'])) (fun q' => hb (by simp [q'])) (fun q' => hb (by simp [q'])) q)) hf (Nat.le_refl _) new
    have ext := sb.extBut
    refine ⟨.ref s.heap.objs.size, _, I1, rfl, ⟨_, x, y, rfl, I.hok.fresh (Nat.le_refl _), rfl, fun l hl => by rw [I.tuple_inj hl hqx]; exact hx, fun l hl => by rw [I.list_inj hl hqy]; exact hy⟩, ⟨z'', ?_, ⟨v1, v2, ?_⟩, ?_, ?_⟩, fun c hcm => ?_⟩
    · exact ext _ _ D.TIz (hk _ _ D.TIz D.TITO D.TIi1 D.TIi2 hTI)
    · exact ext _ _ D.TOz TO'
    · exact s1'.1.at fun o q => ext _ o D.i1z q
    · exact s2'.1.at fun o q => ext _ o D.i2z q
    · have hlt : c < s.heap.objs.size := by
        have e' : c = z ∨ c = TI ∨ c = TO ∨ c = i1 ∨ c = i2 := by simpa using hcm
        obtain ⟨_, f1, _⟩ := h1
        obtain ⟨_, f2, _⟩ := h2
        rcases e' with q | q | q | q | q
        · exact q ▸ hzl
        · exact q ▸ Heap.lt_size hTI
        · exact q ▸ Heap.lt_size hTO
        · exact q ▸ Heap.lt_size f1
        · exact q ▸ Heap.lt_size f2
      rw [upd_ne (Nat.ne_of_lt hlt)]
      exact (hf c hcm).1
  done := by
    intro X hP hw hK hc i pins s σ H E I hf st hg
    subst hP hw hK
    obtain ⟨hz, hTI, ⟨x0, y0, hTO⟩, h1, h2⟩ := st
    obtain ⟨xs, ys, hqx, hqy, hend⟩ := hg
    obtain ⟨its, rv, p, _⟩ := I.tuple hqx
    obtain ⟨its2, rv2, p2, _⟩ := I.list hqy
    have l1 := rv.length
    have l2 := rv2.length
    have hh : X.A.handled = none := I.ok.hd hc
    have key : ∀ (h' : Heap) (tk : Nat), (∀ c o, c ≠ z → c ≠ TO → c ≠ i1 → c ≠ i2 → s.heap.get? c = some o → h'.get? c = some o) → Inv X pins σ H { s with heap := h', toks := tk } := fun h' tk hk =>
      I.turnedL (t' := tk) (ch := [z, TI, TO, i1, i2]) (fun c o hb q => hk c o (fun q' => hb (by simp [q'])) (fun q' => hb (by simp [q'])) (fun q' => hb (by simp [q'])) (fun q' => hb (by simp [q'])) q) hf
    by_cases c1 : i < its.toArray.size
    · have c2 : its2.toArray[i]? = none := by
        rcases hend with q | q
        · exfalso
          have : its.toArray.size = its.length := by simp
          omega
        · simp; omega
      exact wpAny_pyNext_zipD2_end (sep_of D) (Draws.tuple (A := X.A.in1) hh i1 a D.l1i1 its.toArray) (drawsEndL (A := X.A.in1) hh i2 b i c2) hz hTI hTO ⟨h1, p⟩ ⟨rfl, h2, p2.isList⟩ (Nat.le_of_lt c1) (Nat.le_refl _) (.inr rfl) fun h' tk hk => ⟨rfl, key h' tk hk⟩
    · have c1' : its.toArray[i]? = none := by
        rw [Array.getElem?_eq_none]
        omega
      by_cases c2 : i < its2.toArray.size
      · exact wpAny_pyNext_zipD2_end (sep_of D) (drawsEndT (A := X.A.in1) hh i1 a i c1') (Draws.list (A := X.A.in1) hh i2 b D.l2i2 its2.toArray) hz hTI hTO ⟨rfl, h1, p⟩ ⟨h2, p2.isList⟩ (Nat.le_refl _) (Nat.le_of_lt c2) (.inl rfl) fun h' tk hk => ⟨rfl, key h' tk hk⟩
      · have c2' : its2.toArray[i]? = none := by
          rw [Array.getElem?_eq_none]
          omega
        exact wpAny_pyNext_zipD2_end (sep_of D) (drawsEndT (A := X.A.in1) hh i1 a i c1') (drawsEndL (A := X.A.in1) hh i2 b i c2') hz hTI hTO ⟨rfl, h1, p⟩ ⟨rfl, h2, p2.isList⟩ (Nat.le_refl _) (Nat.le_refl _) (.inl rfl) fun h' tk hk => ⟨rfl, key h' tk hk⟩
  self := fun A i s Q E st h => wpAny_pyIter_zip st.1 h
/-- zip of two lists, two tuples, a tuple and a list -/
def iZipM (K : PySem.W.Frag) (ta : TA) : TI := fun σ H R => ta σ H fun vs H1 => ∃ a b xs ys, vs = [.ref a, .ref b] ∧ ((SqL K H1 a xs ∧ SqL K H1 b ys ∧ R (Itz K a b) H1) ∨ (SqT K H1 a xs ∧ SqT K H1 b ys ∧ R (RZ.ItzT K a b) H1) ∨ (SqT K H1 a xs ∧ SqL K H1 b ys ∧ R (ItzM K a b) H1))
theorem pi_zipM {X : Cx} {e e2 : Expr} {ta : TA} {p pos tpos : Pos} {elts : List Expr} {kk : Nat} (hg : Gl X "zip") (hm : X.mg "zip" = none) (ha : PA X [e, e2] ta)
    (hs : starEach [e, e2] X.env = (false, eval e X.env) :: starEach [e2] X.env := by rfl) (hpl : (backTo pos (starEach [e2] X.env)).any (·.1) = false := by rfl) :
    PI X (.Tuple elts kk tpos) (.Call (.Name "zip" p) [e, e2] [] pos) (iZipM X.K ta) := by
  refine ⟨fun pins s σ H R I h => ?_⟩
  refine Call_ (ld_blt I hg hm PyProof.Rows.boot_zip (PyProof.Rows.callWith_type1 (thn (ha.run pos pins s σ H _ I h) fun us s1 ⟨vs, H1, I1, r1, q1⟩ => ?_) hs hpl))
  obtain ⟨a, b, xs, ys, ex, q1⟩ := q1
  subst ex
  obtain ⟨w1, us1, rfl, ra, r2⟩ : ∃ w1 us1, us = w1 :: us1 ∧ RelV (.ref a) w1 ∧ Vals [.ref b] us1 := by cases r1 with | cons r rr => exact ⟨_, _, rfl, r, rr⟩
  obtain ⟨w2, rfl, rb⟩ := vals1 r2
  cases ra
  cases rb
  have fresh5 : ∀ c ∈ [s1.heap.objs.size + 4, s1.heap.objs.size + 2, s1.heap.objs.size + 3, s1.heap.objs.size, s1.heap.objs.size + 1], FpOk X pins H1 c := fun c hcm => by
    have hle : s1.heap.objs.size ≤ c := by
      simp only [List.mem_cons, List.not_mem_nil, or_false] at hcm
      rcases hcm with z | z | z | z | z <;> (rw [z]; first | exact Nat.le_refl _ | exact Nat.le_add_right _ _)
    exact I1.fpOk hle (I1.hok.fresh hle)
  rcases q1 with ⟨hqx, hqy, q⟩ | ⟨hqx, hqy, q⟩ | ⟨hqx, hqy, q⟩
  · obtain ⟨its, rv, p1, _⟩ := I1.list hqx
    obtain ⟨its2, rv2, p2, _⟩ := I1.list hqy
    exact call_zip_2 p1.isList p2.isList fun h' hz hTI hTO h1 h2 hsz hk => wpAny_pyIter_zip hz
      ⟨_, [s1.heap.objs.size + 4, s1.heap.objs.size + 2, s1.heap.objs.size + 3, s1.heap.objs.size, s1.heap.objs.size + 1], _, _, H1, rfl, I1.kept (t' := s1.toks) hk, turn_zip (PySem.W.ktu_apart s1.heap.objs.size a b p1.lt p2.lt), ⟨hz, hTI, ⟨_, _, hTO⟩, h1, h2⟩, fresh5, q⟩
  · obtain ⟨its, rv, p1, _⟩ := I1.tuple hqx
    obtain ⟨its2, rv2, p2, _⟩ := I1.tuple hqy
    obtain ⟨o1, ho1, _⟩ := id p1
    obtain ⟨o2, ho2, _⟩ := id p2
    exact RZ.call_zipT (show s1.heap.IsTuple a its.toArray from p1) (show s1.heap.IsTuple b its2.toArray from p2) fun h' hz hTI hTO h1 h2 hsz hk => wpAny_pyIter_zip hz
      ⟨_, [s1.heap.objs.size + 4, s1.heap.objs.size + 2, s1.heap.objs.size + 3, s1.heap.objs.size, s1.heap.objs.size + 1], _, _, H1, rfl, I1.kept (t' := s1.toks) hk, RZ.turn_zipT (PySem.W.ktu_apart s1.heap.objs.size a b (Heap.lt_size ho1) (Heap.lt_size ho2)), ⟨hz, hTI, ⟨_, _, hTO⟩, h1, h2⟩, fresh5, q⟩
  · obtain ⟨its, rv, p1, _⟩ := I1.tuple hqx
    obtain ⟨its2, rv2, p2, _⟩ := I1.list hqy
    obtain ⟨o1, ho1, _⟩ := id p1
    exact zip_begins2 (begins_tuple a its.toArray) (begins_list b its2.toArray) (show s1.heap.IsTuple a its.toArray from p1) p2.isList fun h' hz hTI hTO h1 h2 hsz hk => wpAny_pyIter_zip hz
      ⟨_, [s1.heap.objs.size + 4, s1.heap.objs.size + 2, s1.heap.objs.size + 3, s1.heap.objs.size, s1.heap.objs.size + 1], _, _, H1, rfl, I1.kept (t' := s1.toks) hk, turn_zipM (PySem.W.ktu_apart s1.heap.objs.size a b (Heap.lt_size ho1) p2.lt), ⟨hz, hTI, ⟨_, _, hTO⟩, ⟨_, h1, rfl, rfl⟩, ⟨_, h2, rfl, rfl⟩⟩, fresh5, q⟩
end L2.Mini
set_option Elab.async false
set_option linter.all false
set_option maxRecDepth 100000
set_option maxHeartbeats 1000000
/-! Mini, part 10: walks. -/
namespace L2.Mini
open PySem PySem.Spec PyProof.Rows

/-- the iterator hands out the walk's items -/
structure Wk (G : Gx) (s0 : Sx) (w : Walk) (J : L2.It) : Prop where
  go : ∀ s i x, TR s0 s → REL G s → guardOk w.2 s.h = true → w.1[i]? = some x → J.go i s.H ∧ ∀ v H', J.yld i s.H v H' → ∃ s', s'.H = H' ∧ s'.h = s.h ∧ TR s s' ∧ REL G s' ∧ s'.RV G x v
  stop : ∀ s i, TR s0 s → REL G s → guardOk w.2 s.h = true → w.1.length ≤ i → J.stop i s.H
def rdI (G : Gx) (W : WX) (m : En → Hm → Res Walk) : TI := fun σ H R => ∃ s ρ, s.H = H ∧ REL G s ∧ EV G s ρ σ ∧ Post G W σ (Wk G) s (m ρ s.h) R
theorem PI.imp {X : Cx} {tg e : Expr} {t t' : TI} (h : PI X tg e t) (k : ∀ σ H R, t' σ H R → t σ H R) : PI X tg e t' := ⟨fun pins s σ H R I w => h.run pins s σ H R I (k σ H R w)⟩

theorem rangeD_get {lo : Int} {n i : Nat} {x : D} (h : (rangeD lo n)[i]? = some x) : i < n ∧ x = .int (lo + i) := by
  unfold rangeD at h
  rw [List.getElem?_map] at h
  by_cases hi : i < n
  · rw [List.getElem?_range hi] at h
    cases h
    exact ⟨hi, rfl⟩
  · rw [List.getElem?_eq_none (by simp; omega)] at h
    cases h
theorem rangeD_len (lo : Int) (n : Nat) : (rangeD lo n).length = n := by simp [rangeD]
theorem enumD_get : ∀ {xs : List D} {k i : Nat} {y : D}, (enumD k xs)[i]? = some y → ∃ x, xs[i]? = some x ∧ y = .tup [.int ((k + i : Nat) : Int), x]
  | [], _, _, _, h => by simp [enumD] at h
  | x :: xs, k, 0, y, h => by
    simp [enumD] at h
    exact ⟨x, rfl, h.symm⟩
  | x :: xs, k, i + 1, y, h => by
    have h' : (enumD (k + 1) xs)[i]? = some y := by simpa [enumD] using h
    obtain ⟨z, h1, h2⟩ := enumD_get h'
    refine ⟨z, by simpa using h1, ?_⟩
    rw [h2, show k + 1 + i = k + (i + 1) by omega]
theorem enumD_len : ∀ (xs : List D) (k : Nat), (enumD k xs).length = xs.length
  | [], _ => rfl
  | x :: xs, k => by simp [enumD, enumD_len xs]
theorem zipD_get : ∀ {xs ys : List D} {i : Nat} {z : D}, (zipD xs ys)[i]? = some z → ∃ x y, xs[i]? = some x ∧ ys[i]? = some y ∧ z = .tup [x, y]
  | [], _, _, _, h => by simp [zipD] at h
  | _ :: _, [], _, _, h => by simp [zipD] at h
  | x :: xs, y :: ys, 0, z, h => by
    simp [zipD] at h
    exact ⟨x, y, rfl, rfl, h.symm⟩
  | x :: xs, y :: ys, i + 1, z, h => by
    have h' : (zipD xs ys)[i]? = some z := by simpa [zipD] using h
    obtain ⟨a, b, h1, h2, h3⟩ := zipD_get h'
    exact ⟨a, b, by simpa using h1, by simpa using h2, h3⟩
theorem zipD_len : ∀ (xs ys : List D) (i : Nat), (zipD xs ys).length ≤ i → xs.length ≤ i ∨ ys.length ≤ i
  | [], _, _, _ => .inl (Nat.zero_le _)
  | _ :: _, [], _, _ => .inr (Nat.zero_le _)
  | x :: xs, y :: ys, 0, h => by simp [zipD] at h
  | x :: xs, y :: ys, i + 1, h => by
    have h' : (zipD xs ys).length ≤ i := by simpa [zipD] using h
    rcases zipD_len xs ys i h' with q | q
    · exact .inl (by simpa using q)
    · exact .inr (by simpa using q)
section
variable {G : Gx} {W : WX} {X : Cx} [KEq G X.K] [WEq G X.w]
/-- what is walked lies as a list, or as a tuple, while the walk goes on -/
theorem walk_rd (K : PySem.W.Frag) [KEq G K] {s : Sx} {d : D} {v : V} {xs : List D} {g : Option (Nat × List D)} (R : REL G s) (q : s.RV G d v) (h : walkOf s.h d = some (xs, g)) :
    guardOk g s.h = true ∧ ∃ a, v = .ref a ∧ ((∀ s', TR s s' → REL G s' → guardOk g s'.h = true → ∃ us, SqL K s'.H a us ∧ s'.RVs G xs us) ∨ (∀ s', TR s s' → REL G s' → guardOk g s'.h = true → ∃ us, SqT K s'.H a us ∧ s'.RVs G xs us)) := by
  cases d with
  | tup ys =>
    cases h
    obtain ⟨p, us, rfl, hr, hl, r⟩ := q
    exact ⟨rfl, p, rfl, .inr fun s' t R' _ => ⟨us, .inl (t.rd hr hl).1, RVs.mono t r⟩⟩
  | lst ys =>
    cases h
    obtain ⟨p, us, rfl, hr, hl, r⟩ := q
    exact ⟨rfl, p, rfl, .inl fun s' t R' _ => ⟨us, .inl (t.rd hr hl).1, RVs.mono t r⟩⟩
  | scr ys =>
    cases h
    obtain ⟨p, us, rfl, hr, r⟩ := q
    exact ⟨rfl, p, rfl, .inl fun s' t R' _ => ⟨us, hr.elim (fun h => .inl (t.rd h.1 h.2).1) Gx.sq, RVs.mono t r⟩⟩
  | ref n =>
    obtain ⟨p, rfl, a⟩ := q
    unfold walkOf at h
    dsimp only at h
    split at h
    · rename_i ys hn
      cases h
      refine ⟨by unfold guardOk; simp [hn], p, rfl, .inl fun s' t R' hg => ?_⟩
      unfold guardOk at hg
      dsimp only at hg
      split at hg
      · rename_i zs hz
        have e : zs = xs := by simpa using hg
        subst e
        obtain ⟨us, h1, h2⟩ := R'.node n _ p hz (t.al n p a)
        exact ⟨us, SqL.of h1, h2⟩
      · cases hg
    · cases h
  | _ => cases h
theorem wk_list {K : PySem.W.Frag} {s0 : Sx} {a : Addr} {xs : List D} {g : Option (Nat × List D)} (h : ∀ s', TR s0 s' → REL G s' → guardOk g s'.h = true → ∃ us, SqL K s'.H a us ∧ s'.RVs G xs us) : Wk G s0 (xs, g) (Itl K a) where
  go := fun s i x t R hg hx => by
    obtain ⟨us, h1, h2⟩ := h s t R hg
    obtain ⟨u, h3, h4⟩ := RVs.get h2 hx
    refine ⟨⟨us, u, h1, h3⟩, fun v H' ⟨e, y⟩ => ?_⟩
    subst e
    have := y us h1
    rw [h3] at this
    cases this
    exact ⟨s, rfl, rfl, TR.refl s, R, h4⟩
  stop := fun s i t R hg hi => by
    obtain ⟨us, h1, h2⟩ := h s t R hg
    exact ⟨us, h1, by rw [← RVs.length h2]; exact hi⟩
theorem wk_tup {K : PySem.W.Frag} {s0 : Sx} {a : Addr} {xs : List D} {g : Option (Nat × List D)} (h : ∀ s', TR s0 s' → REL G s' → guardOk g s'.h = true → ∃ us, SqT K s'.H a us ∧ s'.RVs G xs us) : Wk G s0 (xs, g) (Itt K a) where
  go := fun s i x t R hg hx => by
    obtain ⟨us, h1, h2⟩ := h s t R hg
    obtain ⟨u, h3, h4⟩ := RVs.get h2 hx
    refine ⟨⟨us, u, h1, h3⟩, fun v H' ⟨e, y⟩ => ?_⟩
    subst e
    have := y us h1
    rw [h3] at this
    cases this
    exact ⟨s, rfl, rfl, TR.refl s, R, h4⟩
  stop := fun s i t R hg hi => by
    obtain ⟨us, h1, h2⟩ := h s t R hg
    exact ⟨us, h1, by rw [← RVs.length h2]; exact hi⟩
theorem pair_lay {s : Sx} {T : Addr} {x y : D} {u v : V} (R : REL G s) (hT : s.H T = none) (h1 : s.RV G x u) (h2 : s.RV G y v) : ∃ s', s'.H = upd s.H T (.tup [u, v]) ∧ s'.h = s.h ∧ TR s s' ∧ REL G s' ∧ s'.RV G (.tup [x, y]) (.ref T) := by
  have t : TR s (s.lay T (.tup [u, v])) := TR.lay R hT
  refine ⟨s.lay T (.tup [u, v]), rfl, rfl, t, R.lay hT, T, [u, v], rfl, .inl upd_same, fun z => R.fresh hT z, u, [v], rfl, RV.mono t h1, v, [], rfl, RV.mono t h2, rfl⟩
theorem wk_enum {K : PySem.W.Frag} {s0 : Sx} {a : Addr} {xs : List D} {g : Option (Nat × List D)} (h : ∀ s', TR s0 s' → REL G s' → guardOk g s'.h = true → ∃ us, SqL K s'.H a us ∧ s'.RVs G xs us) : Wk G s0 (enumD 0 xs, g) (Ite K a) where
  go := fun s i x t R hg hx => by
    obtain ⟨us, h1, h2⟩ := h s t R hg
    obtain ⟨z, hz, rfl⟩ := enumD_get hx
    obtain ⟨u, h3, h4⟩ := RVs.get h2 hz
    refine ⟨⟨us, u, h1, h3⟩, fun v H' ⟨T, y, e1, hT, e2, y2⟩ => ?_⟩
    subst e1; subst e2
    have := y2 us h1
    rw [h3] at this
    cases this
    rw [Nat.zero_add]
    exact pair_lay R hT (show s.RV G (.int _) (.int _) from rfl) h4
  stop := fun s i t R hg hi => by
    obtain ⟨us, h1, h2⟩ := h s t R hg
    exact ⟨us, h1, by rw [← RVs.length h2, ← enumD_len xs 0]; exact hi⟩
theorem wk_enumT {K : PySem.W.Frag} {s0 : Sx} {a : Addr} {xs : List D} {g : Option (Nat × List D)} (h : ∀ s', TR s0 s' → REL G s' → guardOk g s'.h = true → ∃ us, SqT K s'.H a us ∧ s'.RVs G xs us) : Wk G s0 (enumD 0 xs, g) (IteT K a) where
  go := fun s i x t R hg hx => by
    obtain ⟨us, h1, h2⟩ := h s t R hg
    obtain ⟨z, hz, rfl⟩ := enumD_get hx
    obtain ⟨u, h3, h4⟩ := RVs.get h2 hz
    refine ⟨⟨us, u, h1, h3⟩, fun v H' ⟨T, y, e1, hT, e2, y2⟩ => ?_⟩
    subst e1; subst e2
    have := y2 us h1
    rw [h3] at this
    cases this
    rw [Nat.zero_add]
    exact pair_lay R hT (show s.RV G (.int _) (.int _) from rfl) h4
  stop := fun s i t R hg hi => by
    obtain ⟨us, h1, h2⟩ := h s t R hg
    exact ⟨us, h1, by rw [← RVs.length h2, ← enumD_len xs 0]; exact hi⟩
theorem RVs.reverse_get {s : Sx} {xs : List D} {us : List V} {i : Nat} {x : D} (r : s.RVs G xs us) (h : xs.reverse[i]? = some x) : i < us.length ∧ ∃ u, us[us.length - 1 - i]? = some u ∧ s.RV G x u := by
  have hi : i < xs.length := by
    have := (List.getElem?_eq_some_iff.mp h).1
    simpa using this
  rw [List.getElem?_reverse hi] at h
  obtain ⟨u, h1, h2⟩ := RVs.get r h
  rw [RVs.length r] at h1 hi
  exact ⟨hi, u, h1, h2⟩
theorem wk_rev {K : PySem.W.Frag} {s0 : Sx} {a : Addr} {n : Nat} {xs : List D} {g : Option (Nat × List D)} (hn : n = xs.length) (h : ∀ s', TR s0 s' → REL G s' → guardOk g s'.h = true → ∃ us, SqL K s'.H a us ∧ s'.RVs G xs us) : Wk G s0 (xs.reverse, g) (Itv K a n) where
  go := fun s i x t R hg hx => by
    obtain ⟨us, h1, h2⟩ := h s t R hg
    have e := RVs.length h2
    obtain ⟨hi, u, h3, h4⟩ := RVs.reverse_get h2 hx
    subst hn
    refine ⟨⟨by rw [e]; exact hi, us, u, h1, by rw [e]; exact h3⟩, fun v H' ⟨e1, y⟩ => ?_⟩
    subst e1
    have := y us h1
    rw [e, h3] at this
    cases this
    exact ⟨s, rfl, rfl, TR.refl s, R, h4⟩
  stop := fun s i t R hg hi => by
    subst hn
    have hi' : xs.length ≤ i := by simpa using hi
    exact hi'
theorem wk_revT {K : PySem.W.Frag} {s0 : Sx} {a : Addr} {n : Nat} {xs : List D} {g : Option (Nat × List D)} (hn : n = xs.length) (h : ∀ s', TR s0 s' → REL G s' → guardOk g s'.h = true → ∃ us, SqT K s'.H a us ∧ s'.RVs G xs us) : Wk G s0 (xs.reverse, g) (RT.ItvT K a n) where
  go := fun s i x t R hg hx => by
    obtain ⟨us, h1, h2⟩ := h s t R hg
    have e := RVs.length h2
    obtain ⟨hi, u, h3, h4⟩ := RVs.reverse_get h2 hx
    subst hn
    refine ⟨⟨by rw [e]; exact hi, us, u, h1, by rw [e]; exact h3⟩, fun v H' ⟨e1, y⟩ => ?_⟩
    subst e1
    have := y us h1
    rw [e, h3] at this
    cases this
    exact ⟨s, rfl, rfl, TR.refl s, R, h4⟩
  stop := fun s i t R hg hi => by
    subst hn
    have hi' : xs.length ≤ i := by simpa using hi
    exact hi'
theorem wk_range {s0 : Sx} {lo : Int} {n : Nat} : Wk G s0 (rangeD lo n, none) (Itr lo n) where
  go := fun s i x t R hg hx => by
    obtain ⟨hi, rfl⟩ := rangeD_get hx
    refine ⟨hi, fun v H' ⟨e, y⟩ => ?_⟩
    subst e; subst y
    exact ⟨s, rfl, rfl, TR.refl s, R, rfl⟩
  stop := fun s i t R hg hi => by
    have hi' : n ≤ i := by simpa [rangeD_len] using hi
    exact hi'

/-- over a list or a tuple -/
def iSeqA (K : PySem.W.Frag) (tl : TE) : TI := fun σ H R => tl σ H fun x H1 => ∃ a, x = .ref a ∧ (((∃ xs, SqL K H1 a xs) ∧ R (Itl K a) H1) ∨ ((∃ xs, SqT K H1 a xs) ∧ R (Itt K a) H1))
theorem pi_seqA {tg : Expr} {l : Expr} {tl : TE} (hl : PE X l tl) : PI X tg l (iSeqA X.K tl) := by
  refine ⟨fun pins s σ H R I h => ?_⟩
  refine thn (hl.run pins s σ H _ I h) fun v s1 ⟨x, H1, I1, r1, q1⟩ => ?_
  obtain ⟨a, e, q1⟩ := q1
  subst e
  cases r1
  rcases q1 with ⟨⟨xs, hq⟩, q⟩ | ⟨⟨xs, hq⟩, q⟩
  · obtain ⟨its, rv, p, hz⟩ := I1.list hq
    refine wpAny_pyIter_list p.isList ?_
    refine ⟨s1.heap.objs.size, [s1.heap.objs.size], _, _, H1, rfl, I1.kept (t' := s1.toks) fun b o e => Heap.get?_push_of_some _ e, turn_list a _, ⟨_, Heap.get?_push_size _ rfl, rfl, rfl⟩, fun b hb => ?_, q⟩
    have e : b = s1.heap.objs.size := by simpa using hb
    subst e
    exact I1.fpOk (Nat.le_refl _) (I1.hok.fresh (Nat.le_refl _))
  · obtain ⟨its, rv, p, hz⟩ := I1.tuple hq
    refine wpAny_pyIter_tuple (show s1.heap.IsTuple a its.toArray from p) ?_
    refine ⟨s1.heap.objs.size, [s1.heap.objs.size], _, _, H1, rfl, I1.kept (t' := s1.toks) fun b o e => Heap.get?_push_of_some _ e, turn_tuple a _, ⟨_, Heap.get?_push_size _ rfl, rfl, rfl⟩, fun b hb => ?_, q⟩
    have e : b = s1.heap.objs.size := by simpa using hb
    subst e
    exact I1.fpOk (Nat.le_refl _) (I1.hok.fresh (Nat.le_refl _))
theorem snd_chars {tg a : Expr} {ma : En → Hm → Res D} (ha : PE X a (rdE G W ma)) : PI X tg a (rdI G W fun ρ h => (ma ρ h).bind iterChars) :=
  PI.imp (pi_str ha) fun σ H Q ⟨s, ρ, e, R, ev, p⟩ => by
    subst e
    refine ⟨s, ρ, rfl, R, ev, (Post.bind p).imp fun v H1 ⟨s1, d, e1, t1, R1, q1, p1⟩ => ?_⟩
    subst e1
    unfold iterChars at p1
    split at p1
    · rename_i x
      refine ⟨x, q1, p1.now R1 ⟨fun s i y t R hg hy => ?_, fun s i t R hg hl => ?_⟩⟩
      · have hy' : (x.cps.toList.map fun c => (D.str ⟨#[c]⟩ : D))[i]? = some y := hy
        rw [List.getElem?_map] at hy'
        cases hc : x.cps.toList[i]? with
        | none => rw [hc] at hy'; cases hy'
        | some c =>
          rw [hc] at hy'
          cases hy'
          have hc2 : x.cps[i]? = some c := by rw [← hc, Array.getElem?_toList]
          refine ⟨(Array.getElem?_eq_some_iff.mp hc2).1, fun v H' ⟨e1, c', e2, e3⟩ => ⟨s, e1.symm, rfl, TR.refl _, R, ?_⟩⟩
          rw [hc2] at e2; cases e2
          exact e3
      · have : (charsD x).length = x.cps.size := by simp [charsD]
        show x.cps.size ≤ i
        rw [← this]; exact hl
    · exact p1.elim
theorem snd_iseq {tg a : Expr} {ma : En → Hm → Res D} (ha : PE X a (rdE G W ma)) : PI X tg a (rdI G W fun ρ h => (ma ρ h).bind iterSeq) :=
  PI.imp (pi_seqA ha) fun σ H Q ⟨s, ρ, e, R, ev, p⟩ => by
    subst e
    refine ⟨s, ρ, rfl, R, ev, (Post.bind p).imp fun v H1 ⟨s1, d, e1, t1, R1, q1, p1⟩ => ?_⟩
    subst e1
    unfold iterSeq at p1
    split at p1
    · rename_i w hw
      obtain ⟨xs, g⟩ := w
      obtain ⟨hg, a, rfl, h | h⟩ := walk_rd X.K R1 q1 hw
      · obtain ⟨us, h1, _⟩ := h s1 (TR.refl _) R1 hg
        exact ⟨a, rfl, .inl ⟨⟨us, h1⟩, p1.now R1 (wk_list h)⟩⟩
      · obtain ⟨us, h1, _⟩ := h s1 (TR.refl _) R1 hg
        exact ⟨a, rfl, .inr ⟨⟨us, h1⟩, p1.now R1 (wk_tup h)⟩⟩
    · exact p1.elim
theorem snd_irev {tg a : Expr} {p pos : Pos} {ma : En → Hm → Res D} (hg : Gl X "reversed") (hm : X.mg "reversed" = none) (hn : noStar1 a = true) (ha : PE X a (rdE G W ma)) :
    PI X tg (.Call (.Name "reversed" p) [a] [] pos) (rdI G W fun ρ h => (ma ρ h).bind iterRev) :=
  PI.imp (RT.pi_revA hg hm ha (star_cons hn _ _)) fun σ H Q ⟨s, ρ, e, R, ev, p⟩ => by
    subst e
    refine ⟨s, ρ, rfl, R, ev, (Post.bind p).imp fun v H1 ⟨s1, d, e1, t1, R1, q1, p1⟩ => ?_⟩
    subst e1
    unfold iterRev at p1
    split at p1
    · rename_i xs g hw
      obtain ⟨hg, a, rfl, h | h⟩ := walk_rd X.K R1 q1 hw
      · obtain ⟨us, h1, h2⟩ := h s1 (TR.refl _) R1 hg
        exact ⟨a, us, rfl, .inl ⟨h1, p1.now R1 (wk_rev (RVs.length h2).symm h)⟩⟩
      · obtain ⟨us, h1, h2⟩ := h s1 (TR.refl _) R1 hg
        exact ⟨a, us, rfl, .inr ⟨h1, p1.now R1 (wk_revT (RVs.length h2).symm h)⟩⟩
    · exact p1.elim
theorem pa_one {a : Expr} {ma : En → Hm → Res D} (hn : noStar1 a = true) (ha : PE X a (rdE G W ma)) : PA X [a] (rdA G W fun ρ h => (ma ρ h).bind fun x h => (Res.ok [] h : Res (List D)).bind fun xs h => .ok (x :: xs) h) := snd_cons ha snd_nil (star_cons hn _ _)
theorem snd_ienum {elts : List Expr} {kk : Nat} {tpos : Pos} {a : Expr} {p pos : Pos} {ma : En → Hm → Res D} (hg : Gl X "enumerate") (hm : X.mg "enumerate" = none) (hn : noStar1 a = true) (ha : PE X a (rdE G W ma)) :
    PI X (.Tuple elts kk tpos) (.Call (.Name "enumerate" p) [a] [] pos) (rdI G W fun ρ h => (ma ρ h).bind iterEnum) :=
  PI.imp (pi_enumA hg hm (pa_cons ha pa_nil (star_cons hn _ _)) (star_cons hn _ _)) fun σ H Q ⟨s, ρ, e, R, ev, p⟩ => by
    subst e
    refine ⟨s, ρ, rfl, R, ev, (Post.bind p).imp fun v H1 ⟨s1, d, e1, t1, R1, q1, p1⟩ => ?_⟩
    subst e1
    unfold iterEnum at p1
    split at p1
    · rename_i xs g hw
      obtain ⟨hg, a, rfl, h | h⟩ := walk_rd X.K R1 q1 hw
      · obtain ⟨us, h1, h2⟩ := h s1 (TR.refl _) R1 hg
        exact ⟨a, us, rfl, .inl ⟨h1, p1.now R1 (wk_enum h)⟩⟩
      · obtain ⟨us, h1, h2⟩ := h s1 (TR.refl _) R1 hg
        exact ⟨a, us, rfl, .inr ⟨h1, p1.now R1 (wk_enumT h)⟩⟩
    · exact p1.elim
theorem small_is {i : Int} (h : small i = true) : -(2 ^ 62) ≤ i ∧ i < 2 ^ 62 := by simpa [small] using h
theorem snd_irange1 {tg a : Expr} {p pos : Pos} {ma : En → Hm → Res D} (hg : Gl X "range") (hm : X.mg "range" = none) (hn : noStar1 a = true) (ha : PE X a (rdE G W ma)) :
    PI X tg (.Call (.Name "range" p) [a] [] pos) (rdI G W fun ρ h => (ma ρ h).bind iterR1) :=
  PI.imp (pi_range1 hg hm (pa_cons ha pa_nil (star_cons hn _ _)) (star_cons hn _ _)) fun σ H Q ⟨s, ρ, e, R, ev, p⟩ => by
    subst e
    refine ⟨s, ρ, rfl, R, ev, (Post.bind p).imp fun v H1 ⟨s1, d, e1, t1, R1, q1, p1⟩ => ?_⟩
    subst e1
    unfold iterR1 at p1
    split at p1
    · rename_i j
      cases (show v = V.int j from q1)
      split at p1
      · rename_i hs
        obtain ⟨h1, h2⟩ := small_is hs
        exact ⟨j, rfl, h1, h2, p1.now R1 wk_range⟩
      · exact p1.elim
    · exact p1.elim
theorem snd_irange2 {tg a b : Expr} {p pos : Pos} {ma mb : En → Hm → Res D} (hg : Gl X "range") (hm : X.mg "range" = none) (hn : noStar1 a = true) (hn2 : noStar1 b = true) (ha : PE X a (rdE G W ma)) (hb : PE X b (rdE G W mb)) :
    PI X tg (.Call (.Name "range" p) [a, b] [] pos) (rdI G W fun ρ h => (ma ρ h).bind fun x h => (mb ρ h).bind fun y h => iterR2 x y h) :=
  PI.imp (pi_range2 hg hm (pa_cons ha (pa_cons hb pa_nil (star_cons hn2 _ _)) (star_cons hn _ _)) (by rw [star_cons hn, star_cons hn2]; rfl) (by rw [star_cons hn2]; rfl)) fun σ H Q ⟨s, ρ, e, R, ev, p⟩ => by
    subst e
    refine ⟨s, ρ, rfl, R, ev, (Post.bind p).imp fun v H1 ⟨s1, d, e1, t1, R1, q1, p1⟩ => ?_⟩
    subst e1
    refine ⟨s1, ρ, rfl, R1, ev.mono t1, (Post.bind p1).imp fun u H2 ⟨s2, d2, e2, t2, R2, q2, p2⟩ => ?_⟩
    subst e2
    replace p2 : Post G W σ (Wk G) s2 (iterR2 d d2 s2.h) Q := p2
    clear p1 p
    unfold iterR2 at p2
    split at p2
    · rename_i i j _
      cases (show v = V.int i from q1)
      cases (show u = V.int j from q2)
      split at p2
      · rename_i hs
        obtain ⟨h1, h2⟩ := small_is hs.1
        obtain ⟨h3, h4⟩ := small_is hs.2
        exact ⟨i, j, rfl, ⟨h1, h2, h3, h4⟩, p2.now R2 wk_range⟩
      · exact p2.elim
    · exact p2.elim
theorem snd_izip {elts : List Expr} {kk : Nat} {tpos : Pos} {a b : Expr} {p pos : Pos} {ma mb : En → Hm → Res D} (hg : Gl X "zip") (hm : X.mg "zip" = none) (hn : noStar1 a = true) (hn2 : noStar1 b = true) (ha : PE X a (rdE G W ma)) (hb : PE X b (rdE G W mb)) :
    PI X (.Tuple elts kk tpos) (.Call (.Name "zip" p) [a, b] [] pos) (rdI G W fun ρ h => (ma ρ h).bind fun x h => (mb ρ h).bind fun y h => iterZip x y h) :=
  PI.imp (pi_zipM hg hm (pa_cons ha (pa_cons hb pa_nil (star_cons hn2 _ _)) (star_cons hn _ _)) (star_cons hn _ _) (back_any (by rw [List.all_cons, hn2]; rfl))) fun σ H Q ⟨s, ρ, e, R, ev, p⟩ => by
    subst e
    refine ⟨s, ρ, rfl, R, ev, (Post.bind p).imp fun v H1 ⟨s1, d, e1, t1, R1, q1, p1⟩ => ?_⟩
    subst e1
    refine ⟨s1, ρ, rfl, R1, ev.mono t1, (Post.bind p1).imp fun u H2 ⟨s2, d2, e2, t2, R2, q2, p2⟩ => ?_⟩
    subst e2
    have q1' := RV.mono t2 q1
    replace p2 : Post G W σ (Wk G) s2 (iterZip d d2 s2.h) Q := p2
    unfold iterZip at p2
    split at p2
    · rename_i xs ys _
      obtain ⟨pa, us, rfl, hr, hl, r⟩ := q1'
      obtain ⟨pb, ws, rfl, hr2, hl2, r2⟩ := q2
      refine ⟨pa, pb, us, ws, rfl, .inr (.inl ⟨.inl hr, .inl hr2, p2.now R2 ⟨fun s i x t R _ hx => ?_, fun s i t R _ hi => ?_⟩⟩)⟩
      · obtain ⟨x1, y1, hx1, hy1, rfl⟩ := zipD_get hx
        obtain ⟨u1, h3, h4⟩ := RVs.get (RVs.mono t r) hx1
        obtain ⟨u2, h5, h6⟩ := RVs.get (RVs.mono t r2) hy1
        have z1 : SqT X.K s.H pa us := .inl (t.rd hr hl).1
        have z2 : SqT X.K s.H pb ws := .inl (t.rd hr2 hl2).1
        refine ⟨⟨us, ws, u1, u2, z1, z2, h3, h5⟩, fun v H' ⟨T, y1, y2, e1, hT, e2, g1, g2⟩ => ?_⟩
        subst e1; subst e2
        have k1 := g1 us z1
        rw [h3] at k1; cases k1
        have k2 := g2 ws z2
        rw [h5] at k2; cases k2
        exact pair_lay R hT h4 h6
      · refine ⟨us, ws, .inl (t.rd hr hl).1, .inl (t.rd hr2 hl2).1, ?_⟩
        rw [← RVs.length r, ← RVs.length r2]
        exact zipD_len xs ys i hi
    · rename_i xs ys _
      obtain ⟨pa, us, rfl, hr, hl, r⟩ := q1'
      obtain ⟨pb, ws, rfl, hr2, hl2, r2⟩ := q2
      refine ⟨pa, pb, us, ws, rfl, .inl ⟨.inl hr, .inl hr2, p2.now R2 ⟨fun s i x t R _ hx => ?_, fun s i t R _ hi => ?_⟩⟩⟩
      · obtain ⟨x1, y1, hx1, hy1, rfl⟩ := zipD_get hx
        obtain ⟨u1, h3, h4⟩ := RVs.get (RVs.mono t r) hx1
        obtain ⟨u2, h5, h6⟩ := RVs.get (RVs.mono t r2) hy1
        have z1 : SqL X.K s.H pa us := .inl (t.rd hr hl).1
        have z2 : SqL X.K s.H pb ws := .inl (t.rd hr2 hl2).1
        refine ⟨⟨us, ws, u1, u2, z1, z2, h3, h5⟩, fun v H' ⟨T, y1, y2, e1, hT, e2, g1, g2⟩ => ?_⟩
        subst e1; subst e2
        have k1 := g1 us z1
        rw [h3] at k1; cases k1
        have k2 := g2 ws z2
        rw [h5] at k2; cases k2
        exact pair_lay R hT h4 h6
      · refine ⟨us, ws, .inl (t.rd hr hl).1, .inl (t.rd hr2 hl2).1, ?_⟩
        rw [← RVs.length r, ← RVs.length r2]
        exact zipD_len xs ys i hi
    · rename_i xs ys _
      obtain ⟨pa, us, rfl, hr, hl, r⟩ := q1'
      obtain ⟨pb, ws, rfl, hr2, hl2, r2⟩ := q2
      refine ⟨pa, pb, us, ws, rfl, .inr (.inr ⟨.inl hr, .inl hr2, p2.now R2 ⟨fun s i x t R _ hx => ?_, fun s i t R _ hi => ?_⟩⟩)⟩
      · obtain ⟨x1, y1, hx1, hy1, rfl⟩ := zipD_get hx
        obtain ⟨u1, h3, h4⟩ := RVs.get (RVs.mono t r) hx1
        obtain ⟨u2, h5, h6⟩ := RVs.get (RVs.mono t r2) hy1
        have z1 : SqT X.K s.H pa us := .inl (t.rd hr hl).1
        have z2 : SqL X.K s.H pb ws := .inl (t.rd hr2 hl2).1
        refine ⟨⟨us, ws, u1, u2, z1, z2, h3, h5⟩, fun v H' ⟨T, y1, y2, e1, hT, e2, g1, g2⟩ => ?_⟩
        subst e1; subst e2
        have k1 := g1 us z1
        rw [h3] at k1; cases k1
        have k2 := g2 ws z2
        rw [h5] at k2; cases k2
        exact pair_lay R hT h4 h6
      · refine ⟨us, ws, .inl (t.rd hr hl).1, .inl (t.rd hr2 hl2).1, ?_⟩
        rw [← RVs.length r, ← RVs.length r2]
        exact zipD_len xs ys i hi
    · exact p2.elim
end
end L2.Mini
set_option Elab.async false
set_option linter.all false
set_option maxRecDepth 100000
set_option maxHeartbeats 1000000
/-! Mini, part 11: targets, comprehensions, loops. -/
namespace L2.Mini
open PySem PySem.Spec PyProof.Rows

/-! ### targets -/
def gPn : List Nat → TGs
  | [] => gNil
  | i :: is => gCons (gName i) (gPn is)
def gP (K : PySem.W.Frag) : Pt → TG
  | .one i => gName i
  | .tup is => gTup K is.length (gPn is)
theorem wipe_set_out {σ : St} {i : Nat} {x : Option V} : ∀ {vs : List Nat}, i ∉ vs → L2.wipe (σ.set i x) vs = (L2.wipe σ vs).set i x
  | [], _ => rfl
  | v :: vs, h => by
    rw [List.mem_cons, not_or] at h
    show (L2.wipe (σ.set i x) vs).set v none = ((L2.wipe σ vs).set v none).set i x
    rw [wipe_set_out h.2, List.set_comm _ _ h.1]
theorem wipe_set {σ : St} {i : Nat} {x : Option V} : ∀ {vs : List Nat}, i ∈ vs → L2.wipe (σ.set i x) vs = L2.wipe σ vs
  | [], h => by simp at h
  | v :: vs, h => by
    show (L2.wipe (σ.set i x) vs).set v none = (L2.wipe σ vs).set v none
    by_cases hm : i ∈ vs
    · rw [wipe_set hm]
    · have e : i = v := by
        rcases List.mem_cons.mp h with h | h
        · exact h
        · exact absurd h hm
      subst e
      rw [wipe_set_out hm, List.set_set]
theorem wipe_wipe {σ : St} {m : List Nat} : ∀ {l : List Nat}, (∀ i ∈ l, i ∈ m) → L2.wipe (L2.wipe σ l) m = L2.wipe σ m
  | [], _ => rfl
  | v :: l, h => by
    show L2.wipe ((L2.wipe σ l).set v none) m = _
    rw [wipe_set (h v (List.mem_cons_self ..)), wipe_wipe fun i hi => h i (List.mem_cons_of_mem _ hi)]
section
variable {G : Gx} {W : WX} {X : Cx} [KEq G X.K] [WEq G X.w]
theorem Gx.off_of (h : G.exs = none) (i : Nat) : G.off i := fun v w z => by rw [h] at z; cases z
theorem EV.wipe {s : Sx} {ρ : En} {σ : St} (hx : G.exs = none) (e : EV G s ρ σ) : ∀ vs : List Nat, EV G s (Mini.wipe ρ vs) (L2.wipe σ vs)
  | [] => e
  | v :: vs => (EV.wipe hx e vs).unset v (Gx.off_of hx v) none
theorem gPn_ok {s : Sx} : ∀ {is : List Nat} {ds : List D} {vs : List V} {ρ ρ' : En} {σ : St} {Q : St → Hp → Prop}, (∀ i ∈ is, G.off i) → s.RVs G ds vs → EV G s ρ σ → bindN is ds ρ = some ρ' →
    (∀ σ', EV G s ρ' σ' → (∀ l : List Nat, (∀ i ∈ is, i ∈ l) → L2.wipe σ' l = L2.wipe σ l) → Q σ' s.H) → gPn is vs σ s.H Q ∧ vs.length = is.length
  | [], [], vs, ρ, ρ', σ, Q, hx, r, ev, h, k => by
    cases (show vs = [] from r); cases h
    exact ⟨⟨rfl, k σ ev fun _ _ => rfl⟩, rfl⟩
  | i :: is, d :: ds, vs, ρ, ρ', σ, Q, hx, r, ev, h, k => by
    obtain ⟨u, w, e, a, b⟩ := r
    subst e
    obtain ⟨h1, h2⟩ := gPn_ok (Q := Q) (fun j hj => hx j (List.mem_cons_of_mem _ hj)) b (ev.set i (hx i (List.mem_cons_self ..)) a) h fun σ' ev' hw => k σ' ev' fun l hl => by
      rw [hw l fun j hj => hl j (List.mem_cons_of_mem _ hj)]
      exact wipe_set (hl i (List.mem_cons_self ..))
    exact ⟨⟨u, w, rfl, h1⟩, by simp [h2]⟩
  | [], _ :: _, _, _, _, _, _, _, _, _, h, _ => by cases h
  | _ :: _, [], _, _, _, _, _, _, _, _, h, _ => by cases h
theorem gP_ok {s : Sx} {p : Pt} {d : D} {v : V} {ρ ρ' : En} {σ : St} {Q : St → Hp → Prop} (hx : ∀ i ∈ p.slots, G.off i) (r : s.RV G d v) (ev : EV G s ρ σ) (h : bindP p d ρ = some ρ')
    (k : ∀ σ', EV G s ρ' σ' → (∀ l : List Nat, (∀ i ∈ p.slots, i ∈ l) → L2.wipe σ' l = L2.wipe σ l) → Q σ' s.H) : gP X.K p v σ s.H Q := by
  cases p with
  | one i =>
    cases h
    exact k _ (ev.set i (hx i (List.mem_cons_self ..)) r) fun l hl => wipe_set (hl i (List.mem_cons_self ..))
  | tup is =>
    cases d with
    | tup ds =>
      obtain ⟨q, us, e, hr, _, rs⟩ := r
      obtain ⟨h1, h2⟩ := gPn_ok (Q := Q) hx rs ev h k
      exact ⟨q, us, e, .inl hr, h2, h1⟩
    | _ => cases h

/-! ### comprehensions -/
def WF : WX := fun _ _ _ _ => False
theorem PTs.imp {ifs : List Expr} {t t' : TT} (h : PTs X ifs t) (k : ∀ σ H Q, t' σ H Q → t σ H Q) : PTs X ifs t' := ⟨fun pins s σ H Q I w => h.run pins s σ H Q I (k σ H Q w)⟩
theorem snd_ifs0 : PTs X [] (rdT G W fun _ h => .ok true h) := PTs.imp pts_nil fun σ H Q ⟨s, ρ, e, R, ev, p⟩ => by subst e; exact Post.now (b := true) p R rfl
theorem snd_ifs1 {c : Expr} {t : TT} (h : PT X c t) : PTs X [c] t := pts_one h
theorem Post.of_ok {β γ δ : Type} {rel : Sx → β → γ → Prop} {σ : St} {s : Sx} {r : Res β} {k : β → Hm → Res δ} {ys : δ} {hE : Hm} (h : r.bind k = .ok ys hE) : Post G W σ rel s r (fun c H => ∃ s1 b, s1.H = H ∧ TR s s1 ∧ REL G s1 ∧ rel s1 b c ∧ k b s1.h = .ok ys hE) := by
  cases r with
  | ok b h1 => exact fun s' c e t R q => ⟨s', b, rfl, t, R, q, by subst e; exact h⟩
  | exc c fs h1 => cases h
  | stuck => cases h
/-- a foreign list is appended to -/
def Sx.app (s : Sx) (p : Addr) (o : HO) : Sx := { s with H := upd s.H p o }
theorem TZ.app {s : Sx} {p : Addr} {o : HO} (hx : s.ex p) : TZ s (s.app p o) := ⟨fun _ _ h => h, fun q u h k => ⟨(upd_ne fun e => k (by rw [e]; exact .inl hx)).trans h, k⟩⟩
theorem REL.app {s : Sx} {p : Addr} {o : HO} (R : REL G s) (hx : s.ex p) : REL G (s.app p o) where
  dom := R.dom
  cod := R.cod
  inj := R.inj
  node := fun n nd q e a => (R.node n nd q e a).monoZ (TZ.app hx) (upd_ne fun z => R.exN n p (by rw [← z]; exact a) hx)
  there := fun n q a => by
    obtain ⟨u, e⟩ := R.there n q a
    exact ⟨u, (upd_ne fun z => R.exN n p (by rw [← z]; exact a) hx).trans e⟩
  exT := fun q h => by
    by_cases e : q = p
    · subst e; exact ⟨o, upd_same⟩
    · obtain ⟨u, k⟩ := R.exT q h
      exact ⟨u, (upd_ne e).trans k⟩
  exN := R.exN
/-- a new foreign list -/
def Sx.own (s : Sx) (p : Addr) (o : HO) : Sx := ⟨s.am, s.h, upd s.H p o, fun q => s.ex q ∨ q = p⟩
theorem TR.own {s : Sx} {p : Addr} {o : HO} (R : REL G s) (hp : s.H p = none) : TR s (s.own p o) :=
  ⟨fun _ _ h => h, fun q u h k => ⟨(upd_ne (ne_of_none h hp)).trans h, fun z => by
    rcases z with (z | z) | z
    · exact k (.inl z)
    · exact ne_of_none h hp z
    · exact k (.inr z)⟩, fun q h => ⟨.inl h, upd_ne (R.exne hp h)⟩⟩
theorem REL.own {s : Sx} {p : Addr} {o : HO} (R : REL G s) (hp : s.H p = none) : REL G (s.own p o) where
  dom := R.dom
  cod := R.cod
  inj := R.inj
  node := fun n nd q e a => (R.node n nd q e a).mono (TR.own R hp) (upd_ne fun z => R.notin hp n (by rw [← z]; exact a))
  there := fun n q a => by
    obtain ⟨u, e⟩ := R.there n q a
    exact ⟨u, (upd_ne fun z => R.notin hp n (by rw [← z]; exact a)).trans e⟩
  exT := fun q h => by
    rcases h with h | h
    · obtain ⟨u, e⟩ := R.exT q h
      exact ⟨u, (upd_ne (R.exne hp h)).trans e⟩
    · subst h; exact ⟨o, upd_same⟩
  exN := fun n q a h => by
    rcases h with h | h
    · exact R.exN n q a h
    · subst h; exact R.notin hp n a
/-- the foreign list becomes ours -/
def Sx.take (s : Sx) (p : Addr) : Sx := ⟨s.am, s.h, s.H, fun q => s.ex q ∧ q ≠ p⟩
theorem take_L {s : Sx} {p q : Addr} (h : (s.take p).L q) : s.L q := h.imp (·.1) id
theorem TZ.take (s : Sx) (p : Addr) : TZ s (s.take p) := ⟨fun _ _ h => h, fun q u h k => ⟨h, fun z => k (take_L z)⟩⟩
theorem REL.take {s : Sx} (R : REL G s) (p : Addr) : REL G (s.take p) where
  dom := R.dom
  cod := R.cod
  inj := R.inj
  node := fun n nd q e a => (R.node n nd q e a).monoZ (TZ.take s p) rfl
  there := R.there
  exT := fun q h => R.exT q h.1
  exN := fun n q a h => R.exN n q a h.1
def Sx.tkn (s : Sx) (p : Addr) (nd : Node) : Sx := ⟨fun n => if n = s.h.length then some p else s.am n, s.h ++ [nd], s.H, fun q => s.ex q ∧ q ≠ p⟩
theorem lc_end {s1 s : Sx} {mk : Bool} {σ : St} {Q : VK} {D : Addr} {acc : List Mini.D} {us : List V} (hD : s1.H D = none) (R1 : REL G s1) (t : TR s1 s) (R : REL G s) (hx : s.ex D) (h : s.H D = some (.lst us)) (r : s.RVs G acc us)
    (q : Post G W σ (rV G) s1 (newL mk acc s.h) Q) : Q (.ref D) s.H := by
  unfold newL at q
  split at q
  · split at q
    · -- a node
      have new : (s.tkn D (.lst acc)).am s.h.length = some D := if_pos rfl
      have old : ∀ n, n ≠ s.h.length → (s.tkn D (.lst acc)).am n = s.am n := fun n hn => if_neg hn
      have hL : ∀ p, (s.tkn D (.lst acc)).L p → p = D ∨ s.L p := fun p z => by
        rcases z with z | ⟨n, nd, a, e, k⟩
        · exact .inr (.inl z.1)
        · by_cases hn : n = s.h.length
          · subst hn
            rw [new] at a
            exact .inl (Option.some.inj a).symm
          · rw [old n hn] at a
            have hlt := R.cod n p a
            have e' : (s.h ++ [Node.lst acc])[n]? = some nd := e
            rw [List.getElem?_append_left hlt] at e'
            exact .inr (.inr ⟨n, nd, a, e', k⟩)
      have tz : TZ s (s.tkn D (.lst acc)) := ⟨fun n p a => by rw [old n (Nat.ne_of_lt (R.cod n p a))]; exact a, fun p o e k => ⟨e, fun z => by
        rcases hL p z with z | z
        · subst z; exact k (.inl hx)
        · exact k z⟩⟩
      have t2 : TR s1 (s.tkn D (.lst acc)) := ⟨fun n p a => tz.al n p (t.al n p a), fun p o e k => by
          obtain ⟨e2, k2⟩ := t.keep p o e k
          exact tz.keep p o e2 k2, fun p z => ⟨⟨(t.exk p z).1, R1.exne hD z⟩, (t.exk p z).2⟩⟩
      have R2 : REL G (s.tkn D (.lst acc)) := by
        refine ⟨fun n hn => ?_, fun n p a => ?_, fun n m p a b => ?_, fun n nd p e a => ?_, fun n p a => ?_, fun p z => R.exT p z.1, fun n p a z => ?_⟩
        · by_cases hl : n = s.h.length
          · exact ⟨D, by rw [hl]; exact new⟩
          · have hn' : n < (s.h ++ [Node.lst acc]).length := hn
            rw [List.length_append, List.length_singleton] at hn'
            obtain ⟨q, e⟩ := R.dom n (by omega)
            exact ⟨q, (old n hl).trans e⟩
        · show n < (s.h ++ [Node.lst acc]).length
          rw [List.length_append, List.length_singleton]
          by_cases hl : n = s.h.length
          · omega
          · rw [old n hl] at a
            have := R.cod n p a
            omega
        · by_cases hl : n = s.h.length
          · subst hl
            rw [new] at a; cases a
            by_cases hm : m = s.h.length
            · exact hm.symm
            · rw [old m hm] at b
              exact absurd hx (R.exN m D b)
          · rw [old n hl] at a
            by_cases hm : m = s.h.length
            · subst hm
              rw [new] at b; cases b
              exact absurd hx (R.exN n D a)
            · rw [old m hm] at b
              exact R.inj n m p a b
        · by_cases hl : n = s.h.length
          · subst hl
            rw [new] at a; cases a
            have e' : (s.h ++ [Node.lst acc])[s.h.length]? = some nd := e
            rw [List.getElem?_append_right (Nat.le_refl _), Nat.sub_self] at e'
            cases e'
            exact ⟨us, h, RVs.monoZ tz r⟩
          · rw [old n hl] at a
            have hlt := R.cod n p a
            have e' : (s.h ++ [Node.lst acc])[n]? = some nd := e
            rw [List.getElem?_append_left hlt] at e'
            exact (R.node n nd p e' a).monoZ tz rfl
        · by_cases hl : n = s.h.length
          · subst hl
            rw [new] at a; cases a
            exact ⟨_, h⟩
          · rw [old n hl] at a
            exact R.there n p a
        · by_cases hl : n = s.h.length
          · subst hl
            rw [new] at a; cases a
            exact z.2 rfl
          · rw [old n hl] at a
            exact R.exN n p a z.1
      exact q.at (s.tkn D (.lst acc)) rfl t2 R2 ⟨D, rfl, new⟩
    · have t2 : TR s1 (s.take D) := ⟨fun n p a => t.al n p a, fun p o e k => by
          obtain ⟨e2, k2⟩ := t.keep p o e k
          exact (TZ.take s D).keep p o e2 k2, fun p z => ⟨⟨(t.exk p z).1, R1.exne hD z⟩, (t.exk p z).2⟩⟩
      refine q.at (s.take D) rfl t2 (R.take D) ⟨D, us, rfl, .inl h, fun z => ?_, RVs.monoZ (TZ.take s D) r⟩
      rcases z with z | ⟨n, nd, a, _⟩
      · exact z.2 rfl
      · exact R.exN n D a hx
  · exact q.elim
/-- a comprehension's meaning -/
def compM (mi : En → Hm → Res Walk) (p : Pt) (mt : En → Hm → Res Bool) (me : En → Hm → Res Mini.D) (mk : Bool) (own : List Nat) : En → Hm → Res Mini.D := fun ρ h => (mi ρ h).bind fun w h => if w.1.length ≤ big then
      (quietR (loopC w.2 p mt me (wipe ρ own) w.1 h)).bind fun ys h => newL mk ys h else .stuck
theorem comp_rd {mk : Bool} {own : List (Str × Nat)} {p : Pt} {mi : En → Hm → Res Walk} {mt : En → Hm → Res Bool} {me : En → Hm → Res Mini.D} (hxs : G.exs = none) (hp : ∀ i ∈ p.slots, i ∈ own.map (·.2)) :
    ∀ σ H Q, rdE G W (compM mi p mt me mk (own.map (·.2))) σ H Q → tLc (rdI G W mi) (gP X.K p) (rdT G WF mt) (rdE G WF me) (own.map (·.2)) σ H Q := fun σ H Q ⟨s, ρ, e, R, ev, p0⟩ => by
    subst e
    refine ⟨s, ρ, rfl, R, ev, (Post.bind p0).imp fun J H1 ⟨s1, w, e1, t1, R1, wk, p1⟩ => ?_⟩
    subst e1
    intro D hD
    obtain ⟨items, g⟩ := w
    dsimp only at p1
    replace p1 : Post G W σ (rV G) s1 (if items.length ≤ big then (quietR (loopC g p mt me (wipe ρ (own.map (·.2))) items s1.h)).bind fun ys h => newL mk ys h else .stuck) Q := p1
    split at p1
    · have evw := EV.wipe hxs (ev.mono t1) (own.map (·.2))
      generalize hρ : wipe ρ (own.map (·.2)) = ρw at p1 evw
      generalize hσ : L2.wipe σ (own.map (·.2)) = σw at evw
      -- what is still to come
      let Inv' : Nat → Hp → Prop := fun i H => ∃ (s' : Sx) (acc : List Mini.D) (us : List V) (ys : List Mini.D) (hE : Hm), s'.H = H ∧ TR s1 s' ∧ REL G s' ∧ s'.ex D ∧ s'.H D = some (.lst us) ∧ s'.RVs G acc us ∧
        loopC g p mt me ρw (items.drop i) s'.h = .ok ys hE ∧ Post G W σ (rV G) s1 (newL mk (acc ++ ys) hE) Q
      refine ⟨fun i m H => m = items.length - i ∧ i ≤ items.length ∧ Inv' i H, ⟨items.length, by simp, Nat.zero_le _, ?_⟩, ?_⟩
      · cases e : loopC g p mt me ρw items s1.h with
        | ok ys hE =>
          rw [e] at p1
          exact ⟨s1.own D (.lst []), [], [], ys, hE, rfl, TR.own R1 hD, R1.own hD, .inr rfl, upd_same, rfl, e, p1⟩
        | exc c fs h => rw [e] at p1; exact p1.elim
        | stuck => rw [e] at p1; exact p1.elim
      · rintro i m H ⟨rfl, hi, s', acc, us, ys, hE, e2, t2, R2, hx, hD2, rs, eL, pE⟩
        subst e2
        by_cases hlt : i < items.length
        · obtain ⟨x, hx1⟩ : ∃ x, items[i]? = some x := ⟨items[i], List.getElem?_eq_getElem hlt⟩
          have ed : items.drop i = x :: items.drop (i + 1) := by
            rw [List.drop_eq_getElem_cons hlt]
            rw [List.getElem?_eq_getElem hlt] at hx1
            cases hx1; rfl
          rw [ed] at eL
          unfold loopC at eL
          split at eL
          · rename_i hg1
            split at eL
            · rename_i ρ2 hb
              obtain ⟨go, yl⟩ := wk.go s' i x t2 R2 hg1 hx1
              refine .inr ⟨go, Inv' (i + 1), fun H' k => ⟨items.length - (i + 1), by omega, rfl, hlt, k⟩, fun v H' y => ?_⟩
              obtain ⟨s3, e3, h3, t3, R3, rv3⟩ := yl v H' y
              subst e3
              refine gP_ok (X := X) (fun i _ => Gx.off_of hxs i) rv3 (evw.mono (t2.trans t3)) hb fun σ' ev' hw => ⟨by rw [hw _ hp, ← hσ, wipe_wipe fun _ h => h], ?_⟩
              rw [← h3] at eL
              refine ⟨s3, ρ2, rfl, R3, ev', (Post.of_ok eL).imp fun b H4 ⟨s4, b', e4, t4, R4, q4, p4⟩ => ?_⟩
              subst e4
              cases (show b' = b from q4)
              cases b with
              | false =>
                rw [if_neg Bool.false_ne_true]
                have t5 := t3.trans t4
                obtain ⟨x5, d5⟩ := t5.exk D hx
                exact ⟨s4, acc, us, ys, hE, rfl, t2.trans t5, R4, x5, d5.trans hD2, RVs.mono t5 rs, p4, pE⟩
              | true =>
                rw [if_pos rfl]
                refine ⟨s4, ρ2, rfl, R4, ev'.mono t4, (Post.of_ok p4).imp fun y H6 ⟨s6, d, e6, t6, R6, q6, p6⟩ => ?_⟩
                subst e6
                cases e7 : loopC g p mt me ρw (items.drop (i + 1)) s6.h with
                | ok zs h7 =>
                  rw [e7] at p6
                  cases p6
                  have t5 := (t3.trans t4).trans t6
                  obtain ⟨x5, d5⟩ := t5.exk D hx
                  have d6 : s6.H D = some (.lst us) := d5.trans hD2
                  have hz := newL_big pE
                  have rs6 : s6.RVs G (acc ++ [d]) (us ++ [y]) := RVs.append (RVs.mono t5 rs) (RVs.one q6)
                  refine ⟨us, d6, ?_, s6.app D (.lst (us ++ [y])), acc ++ [d], us ++ [y], zs, hE, rfl, ?_, R6.app x5, x5, upd_same, RVs.monoZ (TZ.app x5) rs6, e7, by simpa using pE⟩
                  · rw [big_eq, ← RVs.length rs]
                    simp at hz
                    omega
                  · have t8 := t2.trans t5
                    exact ⟨t8.al, fun p o e k => by
                      obtain ⟨e9, k9⟩ := t8.keep p o e k
                      exact ⟨(upd_ne (ne_of_none e hD)).trans e9, k9⟩, fun p z => ⟨(t8.exk p z).1, (upd_ne (R1.exne hD z)).trans (t8.exk p z).2⟩⟩
                | exc c fs h => rw [e7] at p6; cases p6
                | stuck => rw [e7] at p6; cases p6
            · cases eL
          · cases eL
        · have ei : i = items.length := by omega
          subst ei
          rw [List.drop_length] at eL
          unfold loopC at eL
          split at eL
          · rename_i hg1
            cases eL
            rw [List.append_nil] at pE
            exact .inl ⟨wk.stop s' _ t2 R2 hg1 (Nat.le_refl _), lc_end hD R1 t2 R2 hx hD2 rs pE⟩
          · cases eL
    · exact p1.elim
theorem snd_comp {mk : Bool} {elt tg iter : Expr} {ifs : List Expr} {scope : Scope} {own : List (Str × Nat)} {pos : Pos} {p : Pt} {mi : En → Hm → Res Walk} {mt : En → Hm → Res Bool} {me : En → Hm → Res Mini.D}
    (hx : G.exs = none) (hc : X.calm = true) (hN : X.N.Nodup) (hi : PI X tg iter (rdI G W mi)) (ok : BlkOk X.N X.env.scope scope own)
    (hg : ∀ (s : Shared) (H : Hp) (C : Addr) (cl : List (Str × Addr)) (fp : List Addr), PG (X.blk s H scope (compEnvC scope cl C X.env) fp) tg (gP X.K p))
    (ht : ∀ (s : Shared) (H : Hp) (C : Addr) (cl : List (Str × Addr)) (fp : List Addr), PTs (X.blk s H scope (compEnvC scope cl C X.env) fp) ifs (rdT G WF mt))
    (he : ∀ (s : Shared) (H : Hp) (C : Addr) (cl : List (Str × Addr)) (fp : List Addr), PE (X.blk s H scope (compEnvC scope cl C X.env) fp) elt (rdE G WF me))
    (hs : ∀ x, foldedSetIterable iter X.env x = pure x) (hp : ∀ i ∈ p.slots, i ∈ own.map (·.2)) :
    PE X (.ListComp elt [⟨tg, iter, ifs, 0⟩] scope pos) (rdE G W (compM mi p mt me mk (own.map (·.2)))) := PE.imp (pe_lc hc hN hi ok hg ht he hs) (comp_rd hx hp)
end
end L2.Mini
set_option Elab.async false
set_option linter.all false
set_option maxRecDepth 100000
set_option maxHeartbeats 1000000
/-! Mini: an exception out of a list comprehension: the rule. -/
namespace L2
open PySem PySem.Spec PyProof.Rows

/-- the context of a block whose exceptions are taken by xe -/
abbrev Cx.blkX (X : Cx) (s : Shared) (H : Hp) (scope : Scope) (cenv : Env) (fp : List Addr) (xe : Value → Shared → Prop) : Cx := { X with s_0 := s, H_0 := H, env := cenv, outer := X.stack, ex := fp, fn := fun x => scope.names.lookup x == some .cell, pn := [], xe := xe }
section
variable {X : Cx} {pins : List (Addr × Obj)} {σ : St} {H : Hp} {s : Shared} {W : WX}
/-- the frame that catches is noted, whatever the flight -/
theorem looks_anyZ {M : Model} {A : Around} {E : Value → Shared → Prop} {base : Heap} {Z : Obj → Prop} {env : Env} {outer : List Env} {e L : Addr} {fl : Value} {Q : Unit → Shared → Prop} (hZ : HandSPX.Steady Z) (hfr : A.frames = some (env :: outer)) (hf : env.frame = some L)
    (hkb : base.StaysIn s.heap) (hen : base.get? e = none) (hl : s.heap.FunFrames base (env :: outer)) (ht : HandSPX.TracedZ s.heap base e Z fl)
    (hQ : ∀ h', HandSPX.HeldZ base (env :: outer) e Z L h' → s.heap.UpToSlots h' → Q () { s with heap := h' }) : wpAny M A (noteFrame (.ref e) env) Q E s := by
  by_cases c : (fl == rawInt L) = true
  · have : fl = rawInt L := by simpa using c
    subst this
    exact HandSPX.againZ hf ht (hQ s.heap ⟨hkb, hen, hl, ht⟩ (Heap.UpToSlots.refl _))
  · obtain ⟨oe, vs, T, oT, ts, he, hz, hd, h1, hnT, hTe, hT, hdT, h3⟩ := ht
    unfold noteFrame
    simp only [hf]
    refine wpAny_bind (wpAny_field he hd h1 ?_)
    rw [if_pos (show (Value.ref T != Value.none) = true from by simp)]
    refine wpAny_bind (wpAny_field hT hdT h3 ?_)
    rw [if_neg c]
    refine wpAny_bind (wpAny_setField hT hdT (Array.getElem?_eq_some_iff.mp h3).1 ?_)
    have other : ∀ b, b ≠ T → (s.heap.update T (Obj.mapFields (·.setIfInBounds 3 Value.none))).get? b = s.heap.get? b := fun b hb => Heap.get?_update_other _ _ (Ne.symm hb)
    have noRecord : ∀ b o, s.heap.get? b = some o → (∀ vs, o.data ≠ .fields vs) → b ≠ T := fun b o hb hnf q => by
      rw [q, hT] at hb; injection hb with hb; subst hb; exact hnf ts hdT
    refine HandSPX.wpAny_entryZ hZ hfr (hl.of_keeps fun b o hb hnf => ⟨o, (other b (noRecord b o hb hnf)).trans hb, rfl⟩) hf ((other e (Ne.symm hTe)).trans he)
      (fun b o hbo => (other b fun q => by rw [q, hnT] at hbo; cases hbo).trans (hkb b o hbo)) hen hd (Array.getElem?_eq_some_iff.mp h1).1 hz fun h' hN => ?_
    obtain ⟨x1, x2, x3, x4⟩ := hN
    exact hQ h' ⟨x1, hen, x2, x3⟩ fun b o hb hnf => x4 b o ((other b (noRecord b o hb hnf)).trans hb) hnf
theorem sky_noted {M : Model} {A : Around} {E : Value → Shared → Prop} {B : Heap} {Z : Obj → Prop} {env : Env} {outer : List Env} {a L L' : Addr} {Q : Unit → Shared → Prop} (hZ : HandSPX.Steady Z) (hfr : A.frames = some (env :: outer)) (hf : env.frame = some L)
    (x : Sky B (env :: outer) a Z L' s.heap) (hQ : ∀ h', HandSPX.HeldZ B (env :: outer) a Z L h' → s.heap.UpToSlots h' → Q () { s with heap := h' }) : wpAny M A (noteFrame (.ref a) env) Q E s := by
  rcases x with ⟨hB, hn, hl, oe, vs, he, hz, hd, h1⟩ | fl | hh
  · exact HandSPX.look_newZ hZ hfr hl hf he hB hn hd h1 hz hQ
  · exact HandSPX.looks_onZ hZ hfr hf fl hQ
  · exact looks_anyZ hZ hfr hf hh.1 hh.2.1 hh.2.2.1 hh.2.2.2 hQ
/-- an exception in the air of the block goes on in the def's own -/
theorem takes_blkX (hs : X.stack = X.env :: X.outer) (hf : X.env.frame = some X.env.locals) (tk : Takes X W) {s3 : Shared} {H3 : Hp} (I3 : Inv X pins σ H3 s3) {fp : List Addr} (f3 : ∀ b ∈ fp, FpOk X pins H3 b ∧ b < s3.heap.objs.size)
    {scope : Scope} {ce : Env} (cL : ce.locals = s3.heap.objs.size) (cf : ce.frame = X.env.frame) :
    Takes (X.blkX s3 H3 scope ce fp (notedBy (model X.prog X.w) X.A ce (CompFails (model X.prog X.w) X.A X.xe ce))) (fun c d _ H => W c d σ H) := by
  rintro u s' ⟨a, B, sI, pins', σ', H', cls, d, rfl, I', nb, up, sky, na, os, ag, w⟩
  have I7 : Inv X pins σ H' sI := I3.call' (ch := fp) I'.os I'.base I'.hok I'.bare fun b hb => ⟨(f3 b hb).1.2.2.2.1, (f3 b hb).1.2.1, (f3 b hb).1.2.2.2.2.1, (f3 b hb).1.2.2.2.2.2⟩
  have nC : H' ce.locals = none := I'.free
  have FC : FpOk X pins H' ce.locals := by
    rw [cL] at nC ⊢
    exact I3.fpOk (Nat.le_refl _) nC
  obtain ⟨m, hn, _⟩ := I'.loc
  have hn : sI.heap.Ns ce.locals m := hn
  have hCf : ce.locals ∉ frs X.stack := fun z => by
    rcases List.mem_cons.mp (I3.stkSub _ z) with e | e
    · exact FC.2.1 e
    · exact FC.2.2.1 e
  obtain ⟨oC, es, ep, hoC, hdC, _⟩ := id hn
  have hBC : B.get? ce.locals = some oC := nb _ _ hoC hCf
  have hZ : HandSPX.Steady (Zc cls d) := Zc.steady
  have hfr : X.A.frames = some (X.env :: X.outer) := by rw [← hs]; exact I3.ok.frames
  have sky' : Sky B (X.env :: X.outer) a (Zc cls d) ce.locals s'.heap := by rw [← hs]; exact sky
  show wpAny (model X.prog X.w) X.A (noteFrame (.ref a) ce) _ _ s'
  rw [noteFrame_env _ cf]
  refine sky_noted hZ hfr hf sky' fun h1 held up1 => ?_
  have hn1 : h1.Ns ce.locals m := hn.upToSlots (up.trans up1)
  refine ⟨m, hn1, fun h' m' hn' hs' => ?_⟩
  obtain ⟨b1, b0, ff, oe, vs, T, oT, ts, he, hz, hd, hv1, hnT, hTe, hT, hdT, h3⟩ := held
  have haC : a ≠ ce.locals := fun z => by rw [z, hBC] at b0; cases b0
  have hTC : T ≠ ce.locals := fun z => by rw [z, hBC] at hnT; cases hnT
  have ff' : h'.FunFrames B (X.env :: X.outer) := Heap.FunFrames.sameBut hs' hn' ff
  obtain ⟨B', g1, g2⟩ := restrict h' fun b => (B.get? b).isSome
  have gB : ∀ b, B.get? b = none → B'.get? b = none := fun b e => g2 b (by rw [e]; rfl)
  have held' : HandSPX.HeldZ B' (X.env :: X.outer) a (Zc cls d) X.env.locals h' := by
    refine ⟨fun b o e => ?_, gB a b0, funFrames_none ff' fun L hL => gB L (ff'.mem hL).1, oe, vs, T, oT, ts, (hs'.2 a haC).trans he, hz, hd, hv1, gB T hnT, hTe, (hs'.2 T hTC).trans hT, hdT, h3⟩
    cases q : B.get? b with
    | none => rw [gB b q] at e; cases e
    | some o2 => rw [← g1 b (by rw [q]; rfl)]; exact e
  unfold PySem.passOn
  refine wpAny_bind (wpAny_field (s := { s' with heap := h' }) ((hs'.2 a haC).trans he) hd hv1 ?_)
  rw [if_neg (show ¬ ((Value.ref T == Value.none) = true) from by simp)]
  rw [cf, hf]
  refine wpAny_bind (HandSPX.setFlight_onZ (s := { s' with heap := h' }) held' fun h2 held2 up2 => ?_)
  refine wpAny_throw ?_
  obtain ⟨oC', es', ep', hoC', hdC', _⟩ := id hn'
  have hupd : (sI.heap.update ce.locals fun _ => oC').get? ce.locals = some oC' := Heap.get?_update_self _ hoC (Obj.isFreed_of_dict hdC')
  refine tk _ _ ⟨a, B', { sI with heap := sI.heap.update ce.locals fun _ => oC' }, pins, σ, H', cls, d, rfl, ?_, fun b o e hb => ?_, fun b o e hnf => ?_, ?_, na, os, ag, w⟩
  · exact I7.turned (t' := sI.toks) (fun b o hb e => (Heap.get?_update_other _ _ (Ne.symm hb)).trans e) nC FC.2.1 FC.2.2.2.1 FC.2.2.2.2.1 FC.2.2.2.2.2
  · by_cases hbC : b = ce.locals
    · subst hbC
      have e : (sI.heap.update ce.locals fun _ => oC').get? ce.locals = some o := e
      rw [hupd] at e; cases e
      rw [g1 _ (by rw [hBC]; rfl)]; exact hoC'
    · have e : (sI.heap.update ce.locals fun _ => oC').get? b = some o := e
      rw [Heap.get?_update_other _ _ (Ne.symm hbC)] at e
      have e2 := nb b o e hb
      rw [g1 b (by rw [e2]; rfl), hs'.2 b hbC]
      exact b1 b o e2
  · by_cases hbC : b = ce.locals
    · subst hbC
      have e : (sI.heap.update ce.locals fun _ => oC').get? ce.locals = some o := e
      rw [hupd] at e; cases e
      exact up2 _ _ hoC' hnf
    · have e : (sI.heap.update ce.locals fun _ => oC').get? b = some o := e
      rw [Heap.get?_update_other _ _ (Ne.symm hbC)] at e
      obtain ⟨sl, e1⟩ := (up.trans up1) b o e hnf
      obtain ⟨sl2, e2⟩ := up2 b { o with slots := sl } ((hs'.2 b hbC).trans e1) hnf
      exact ⟨sl2, e2⟩
  · rw [hs]
    exact .inr (.inr held2)
theorem pe_lcX {elt tg iter : Expr} {ifs : List Expr} {scope : Scope} {own : List (Str × Nat)} {pos : Pos} {wi : TI} {g : TG} {tt : TT} {te : TE} (hst : X.stack = X.env :: X.outer) (hf : X.env.frame = some X.env.locals) (tk : Takes X W) (hc : X.calm = true) (hN : X.N.Nodup) (hi : PI X tg iter wi) (ok : BlkOk X.N X.env.scope scope own)
    (hg : ∀ (s : Shared) (H : Hp) (C : Addr) (cl : List (Str × Addr)) (fp : List Addr) (xe : Value → Shared → Prop), PG (X.blkX s H scope (compEnvC scope cl C X.env) fp xe) tg g)
    (ht : ∀ (s : Shared) (H : Hp) (C : Addr) (cl : List (Str × Addr)) (fp : List Addr) (xe : Value → Shared → Prop), Takes (X.blkX s H scope (compEnvC scope cl C X.env) fp xe) (fun c d _ H => W c d σ H) → PTs (X.blkX s H scope (compEnvC scope cl C X.env) fp xe) ifs tt)
    (he : ∀ (s : Shared) (H : Hp) (C : Addr) (cl : List (Str × Addr)) (fp : List Addr) (xe : Value → Shared → Prop), Takes (X.blkX s H scope (compEnvC scope cl C X.env) fp xe) (fun c d _ H => W c d σ H) → PE (X.blkX s H scope (compEnvC scope cl C X.env) fp xe) elt te) (hs : ∀ x, foldedSetIterable iter X.env x = pure x)
    {pins : List (Addr × Obj)} {s : Shared} {H : Hp} {Q : VK} (I : Inv X pins σ H s) (h : tLc wi g tt te (own.map (·.2)) σ H Q) :
    wpAny (model X.prog X.w) X.A (eval (.ListComp elt [⟨tg, iter, ifs, 0⟩] scope pos) X.env) (EP X pins σ Q) X.xe s := by
  rw [eval_ListComp]
  have hfree : ∀ y ∈ scope.names, y.2 = .free → ∃ c, X.env.cells.lookup y.1 = some c := fun y hy e => by
    rcases ok.free y hy e with k | k
    · exact I.ok.has _ (.inl k)
    · exact I.ok.has _ (.inr k)
  refine comprehension_at (use := none) rfl hs (closure_ok hfree) ok.kind (fun y hy e => by rw [ok.uniq y hy, e])
    (thn (hi.run pins s σ H _ I h) fun xv s1 hx => thn hx fun itv s2 h2 => ?_)
  obtain ⟨it, fp, tn, J, H2, e, I2, T, st2, f2, q⟩ := h2
  subst e
  refine wpAny_newObj_type (newEnv_comp ?_) (by show 0 ≤ sizeLine; decide)
  generalize hD : s2.heap.objs.size = D
  have hDn : H2 D = none := I2.hok.fresh (Nat.le_of_eq hD)
  obtain ⟨Wm, ⟨m0, w0⟩, turn⟩ := q D hDn
  generalize hs3 : ({ s2 with heap := s2.heap.push { cls := .type "list", data := .seq ([] : List Value).toArray } } : Shared) = s3
  have I3 : Inv X pins σ (upd H2 D (.lst [])) s3 := by
    rw [← hs3]
    refine I2.laid (t' := s2.toks) (fun b o e => Heap.get?_push_of_some _ e) (Nat.le_of_eq hD) ⟨Nat.zero_le _, [], 0, .nil, ?_⟩
    rw [← hD]
    exact Heap.get?_push_size _ rfl
  have h3 : s3.heap = s2.heap.push { cls := .type "list", data := .seq ([] : List Value).toArray } := by rw [← hs3]
  have sz : ∀ b ∈ fp, b < s2.heap.objs.size := fun b hb => by
    obtain ⟨o, e, _⟩ := T.obj _ _ st2 b hb
    exact Heap.lt_size e
  have f3 : ∀ b ∈ fp, FpOk X pins (upd H2 D (.lst [])) b ∧ b < s3.heap.objs.size := fun b hb => by
    have hlt := sz b hb
    refine ⟨⟨?_, (f2 b hb).2⟩, by rw [h3, Heap.size_push]; exact Nat.lt_succ_of_lt hlt⟩
    rw [upd_ne (by rw [← hD]; exact Nat.ne_of_lt hlt)]
    exact (f2 b hb).1
  have st3 : tn 0 s3.heap := T.keep _ _ _ st2 fun b _ o e => by rw [h3]; exact Heap.get?_push_of_some _ e
  have I4 := block_start I3 ok hN f3
  have tkX := fun (ce : Env) cL cf => takes_blkX hst hf tk I3 f3 (scope := scope) (ce := ce) cL cf
  have pg := hg s3 (upd H2 D (.lst [])) s3.heap.objs.size (cellsFrom (s3.heap.objs.size + 1) scope.names (cloFrom X.env.cells scope.names [])) fp
  have pt := ht s3 (upd H2 D (.lst [])) s3.heap.objs.size (cellsFrom (s3.heap.objs.size + 1) scope.names (cloFrom X.env.cells scope.names [])) fp
  have pe := he s3 (upd H2 D (.lst [])) s3.heap.objs.size (cellsFrom (s3.heap.objs.size + 1) scope.names (cloFrom X.env.cells scope.names [])) fp
  show codeAny _ _ (.compStart (.ListComp elt [⟨tg, iter, ifs, 0⟩] scope pos) 0 (.ref it) (.ref D) (compEnvC scope (cellsFrom (s3.heap.objs.size + 1) scope.names (cloFrom X.env.cells scope.names [])) s3.heap.objs.size X.env)) (compEnds (model X.prog X.w) X.A X.xe none (EP X pins σ Q) (.ref D) (compEnvC scope (cellsFrom (s3.heap.objs.size + 1) scope.names (cloFrom X.env.cells scope.names [])) s3.heap.objs.size X.env)) { s3 with heap := pushCells (s3.heap.push { cls := .type "dict", data := .dict #[] }) scope.names }
  have nfp : ∀ b ∈ fp, (upd H2 D (.lst [])) b = none := fun b hb => (f3 b hb).1.1
  have cF : (compEnvC scope (cellsFrom (s3.heap.objs.size + 1) scope.names (cloFrom X.env.cells scope.names [])) s3.heap.objs.size X.env).frame = X.env.frame := rfl
  generalize hce : compEnvC scope (cellsFrom (s3.heap.objs.size + 1) scope.names (cloFrom X.env.cells scope.names [])) s3.heap.objs.size X.env = ce at I4 pg pt pe cF ⊢
  have cL : ce.locals = s3.heap.objs.size := by subst hce; rfl
  replace tkX := tkX ce cL cF
  generalize hH3 : upd H2 D (.lst []) = H3 at I3 I4 pg pt pe w0 nfp f3 tkX
  generalize hxe : notedBy (model X.prog X.w) X.A ce (CompFails (model X.prog X.w) X.A X.xe ce) = xe at tkX
  replace pg := pg xe
  replace pt := pt xe tkX
  replace pe := pe xe tkX
  replace I4 : Inv (X.blkX s3 H3 scope ce fp xe) [] (wipe σ (own.map (·.2))) H3 { s3 with heap := pushCells (s3.heap.push { cls := .type "dict", data := .dict #[] }) scope.names } := I4.toTry xe
  generalize hs4 : ({ s3 with heap := pushCells (s3.heap.push { cls := .type "dict", data := .dict #[] }) scope.names } : Shared) = s4 at I4 ⊢
  have st4 : tn 0 s4.heap := T.keep _ _ _ st3 fun b _ o e => by rw [← hs4]; exact pushCells_keeps _ _ _ _ (Heap.get?_push_of_some _ e)
  have stat : ∀ {σ' : St} {H' : Hp} {s' : Shared}, Inv (X.blkX s3 H3 scope ce fp xe) [] σ' H' s' → (∀ b ∈ fp, H' b = none) → ∀ b ∈ fp, FpOk (X.blkX s3 H3 scope ce fp xe) [] H' b := fun {σ' H' s'} I' hn b hb =>
    ⟨hn b hb, (I'.ok.exf b hb).1, I'.ok.exfs b hb, .inl hb, fun x c e => (I'.ok.exf b hb).2 x c e, fun p hp => absurd (show p ∈ ([] : List (Addr × Obj)) ++ [] from hp) (by simp)⟩
  have loop : codeAny (model X.prog X.w) X.A (.compLoop (.ListComp elt [⟨tg, iter, ifs, 0⟩] scope pos) 0 (.ref it) (.ref D) ce) (compEnds (model X.prog X.w) X.A X.xe none (EP X pins σ Q) (.ref D) ce) s4 := by
    refine compLoop_any (fun n s' => ∃ i H', Inv (X.blkX s3 H3 scope ce fp xe) [] (wipe σ (own.map (·.2))) H' s' ∧ tn i s'.heap ∧ (∀ b ∈ fp, H' b = none) ∧ Wm i n H') ?_ m0 ⟨0, H3, I4, st4, nfp, w0⟩
    rintro n s5 ⟨i, H5, I5, st5, n5, w5⟩
    show wpAny _ _ _ _ (notedBy (model X.prog X.w) X.A ce (CompFails (model X.prog X.w) X.A X.xe ce)) s5
    rcases turn i n H5 w5 with ⟨stop, qq⟩ | ⟨go, Nx, hNx, step⟩
    · have td := T.done (X.blkX s3 H3 scope ce fp xe) rfl rfl rfl hc i [] s5 _ H5 (fun _ _ => False) I5 (stat I5 n5) st5 stop
      refine thnF td fun r s6 ⟨hr, I6⟩ => ?_
      subst hr
      have I7 : Inv X pins σ H5 s6 := I3.call' (ch := fp) I6.os I6.base I6.hok I6.bare fun b hb => ⟨(f3 b hb).1.2.2.2.1, (f3 b hb).1.2.1, (f3 b hb).1.2.2.2.2.1, (f3 b hb).1.2.2.2.2.2⟩
      have nC : H5 s3.heap.objs.size = none := by
        have z : H5 ce.locals = none := I6.free
        rw [cL] at z
        exact z
      obtain ⟨m, hn, _⟩ := I6.loc
      have hn : s6.heap.Ns ce.locals m := hn
      have FC := I3.fpOk (H' := H5) (Nat.le_refl _) nC
      rw [← cL] at FC
      obtain ⟨f0, f1, f2, f3, f4, f5⟩ := FC
      exact ⟨m, hn, fun h'' sb => ⟨.ref D, H5, I7.turned (t' := s6.toks) (fun b o hb e => (sb.2 b hb).trans e) f0 f1 f3 f4 f5, rfl, qq⟩⟩
    · have ti := T.item (X.blkX s3 H3 scope ce fp xe) rfl rfl rfl hc i [] s5 _ H5 (fun _ _ => False) I5 (stat I5 n5) st5 go
      refine thnF ti fun r s6 ⟨u, hr, h6⟩ => ?_
      subst hr
      refine thnF h6 fun _ s7 ⟨x, H7, I7, r7, y7, st7, n7⟩ => ?_
      have I7' := I7.pinned (stat I7 n7) (T.obj _ _ st7)
      have p1 := pg.run _ s7 _ H7 x u _ I7' r7 (step x H7 y7)
      show wpAny _ _ _ _ (notedBy (model X.prog X.w) X.A ce (CompFails (model X.prog X.w) X.A X.xe ce)) s7
      rw [hxe]
      refine thn p1 fun _ s8 ⟨σ8, H8, I8, hw8, q8⟩ => ?_
      have p2 := pt.run _ s8 σ8 H8 _ I8 q8
      show wpAny _ _ _ _ (notedBy (model X.prog X.w) X.A ce (CompFails (model X.prog X.w) X.A X.xe ce)) s8
      rw [hxe]
      refine thn p2 fun b s9 ⟨H9, I9, q9⟩ => ?_
      have fin : ∀ {s' : Shared} {H' : Hp}, Inv (X.blkX s3 H3 scope ce fp xe) ([] ++ pinsAt fp s7.heap) σ8 H' s' → Nx H' → ∃ m, m < n ∧ ∃ i H', Inv (X.blkX s3 H3 scope ce fp xe) [] (wipe σ (own.map (·.2))) H' s' ∧ tn i s'.heap ∧ (∀ b ∈ fp, H' b = none) ∧ Wm i m H' := fun {s' H'} I' nx => by
        obtain ⟨m', hm, w'⟩ := hNx H' nx
        have pin' : ∀ b ∈ fp, ∀ o, s7.heap.get? b = some o → s'.heap.get? b = some o ∧ H' b = none := fun b hb o e =>
          let z := I'.pin (b, o) (List.mem_append_right _ (List.mem_append_right _ (mem_pinsAt hb e)))
          ⟨z.1, z.2.1⟩
        have hl : (wipe σ (own.map (·.2))).length = σ8.length := by rw [← hw8, wipe_length]
        refine ⟨m', hm, i + 1, H', (I'.unpinned (pins := [])).weak hl (fun j v e => ?_), T.keep _ _ _ st7 fun b hb o e => (pin' b hb o e).1, fun b hb => ?_, w'⟩
        · rw [← hw8] at e
          exact (wipe_some e).1
        · obtain ⟨o, e, _⟩ := T.obj _ _ st7 b hb
          exact (pin' b hb o e).2
      cases b with
      | false =>
        simp only [Bool.false_eq_true, if_false] at q9 ⊢
        exact fin I9 q9
      | true =>
        simp only [if_true] at q9 ⊢
        have p3 := pe.run _ s9 σ8 H9 _ I9 q9
        show wpAny _ _ _ _ (notedBy (model X.prog X.w) X.A ce (CompFails (model X.prog X.w) X.A X.xe ce)) s9
        rw [hxe]
        refine thn p3 fun z s10 ⟨yv, H10, I10, r10, acc, hD10, hz10, nx⟩ => ?_
        exact app_ok (X := X.blkX s3 H3 scope ce fp xe) I10 hD10 hz10 r10 fun s11 I11 => fin I11 nx
  exact codeAny_compStart_list loop (T.self X.A 0 _ _ _ st4 loop)
end
end L2
namespace L2.Mini
open PySem PySem.Spec PyProof.Rows
section
variable {G : Gx} {W : WX} {X : Cx} [KEq G X.K] [WEq G X.w]
theorem bind_assocR {α β γ : Type} (r : Res α) (f : α → Hm → Res β) (g : β → Hm → Res γ) : (r.bind f).bind g = r.bind fun a h => (f a h).bind g := by cases r <;> rfl
theorem Post.bindAt {σ σ' : St} {β γ δ ε : Type} {rel : Sx → β → γ → Prop} {rel' : Sx → δ → ε → Prop} {s1 s3 : Sx} (t : TR s1 s3) {r : Res δ} {k : δ → Hm → Res β} {Q : γ → Hp → Prop} (p : Post G W σ rel s1 (r.bind k) Q) :
    Post G (fun c d _ H => W c d σ H) σ' rel' s3 r (fun v H => ∃ s4 b, s4.H = H ∧ TR s3 s4 ∧ REL G s4 ∧ rel' s4 b v ∧ Post G W σ rel s1 (k b s4.h) Q) := by
  cases r with
  | ok b h => exact fun s4 c e t4 R q => ⟨s4, b, rfl, t4, R, q, by subst e; exact p⟩
  | exc c fs h => exact fun s4 dx e t4 R xr => p s4 dx e (t.trans t4) R xr
  | stuck => exact p
/-- a comprehension's meaning, its exceptions told -/
def compMX (mi : En → Hm → Res Walk) (p : Pt) (mt : En → Hm → Res Bool) (me : En → Hm → Res Mini.D) (mk : Bool) (own : List Nat) : En → Hm → Res Mini.D := fun ρ h => (mi ρ h).bind fun w h => if w.1.length ≤ big then
      (loopC w.2 p mt me (wipe ρ own) w.1 h).bind fun ys h => newL mk ys h else .stuck
theorem comp_rdX {mk : Bool} {own : List (Str × Nat)} {p : Pt} {mi : En → Hm → Res Walk} {mt : En → Hm → Res Bool} {me : En → Hm → Res Mini.D} (hxs : G.exs = none) (hp : ∀ i ∈ p.slots, i ∈ own.map (·.2)) :
    ∀ σ H Q, rdE G W (compMX mi p mt me mk (own.map (·.2))) σ H Q → tLc (rdI G W mi) (gP X.K p) (rdT G (fun c d _ H => W c d σ H) mt) (rdE G (fun c d _ H => W c d σ H) me) (own.map (·.2)) σ H Q := fun σ H Q ⟨s, ρ, e, R, ev, p0⟩ => by
  subst e
  refine ⟨s, ρ, rfl, R, ev, (Post.bind p0).imp fun J H1 ⟨s1, w, e1, t1, R1, wk, p1⟩ => ?_⟩
  subst e1
  intro D hD
  obtain ⟨items, g⟩ := w
  dsimp only at p1
  replace p1 : Post G W σ (rV G) s1 (if items.length ≤ big then (loopC g p mt me (wipe ρ (own.map (·.2))) items s1.h).bind fun ys h => newL mk ys h else .stuck) Q := p1
  split at p1
  · rename_i hbig
    have evw := EV.wipe hxs (ev.mono t1) (own.map (·.2))
    generalize hρ : wipe ρ (own.map (·.2)) = ρw at p1 evw
    generalize hσ : L2.wipe σ (own.map (·.2)) = σw at evw
    let Inv' : Nat → Hp → Prop := fun i H => ∃ (s' : Sx) (acc : List Mini.D) (us : List V), s'.H = H ∧ TR s1 s' ∧ REL G s' ∧ s'.ex D ∧ s'.H D = some (.lst us) ∧ s'.RVs G acc us ∧ acc.length ≤ i ∧
      Post G W σ (rV G) s1 ((loopC g p mt me ρw (items.drop i) s'.h).bind fun ys h => newL mk (acc ++ ys) h) Q
    refine ⟨fun i m H => m = items.length - i ∧ i ≤ items.length ∧ Inv' i H, ⟨items.length, by simp, Nat.zero_le _, ?_⟩, ?_⟩
    · exact ⟨s1.own D (.lst []), [], [], rfl, TR.own R1 hD, R1.own hD, .inr rfl, upd_same, rfl, Nat.le_refl _, p1⟩
    · rintro i m H ⟨rfl, hi, s', acc, us, e2, t2, R2, hx, hD2, rs, hacc, pE⟩
      subst e2
      by_cases hlt : i < items.length
      · obtain ⟨x, hx1⟩ : ∃ x, items[i]? = some x := ⟨items[i], List.getElem?_eq_getElem hlt⟩
        have ed : items.drop i = x :: items.drop (i + 1) := by
          rw [List.drop_eq_getElem_cons hlt]
          rw [List.getElem?_eq_getElem hlt] at hx1
          cases hx1; rfl
        rw [ed] at pE
        unfold loopC at pE
        by_cases hg1 : guardOk g s'.h = true
        · rw [if_pos hg1] at pE
          cases hb : bindP p x ρw with
          | none => rw [hb] at pE; exact pE.elim
          | some ρ2 =>
            rw [hb] at pE
            dsimp only at pE
            obtain ⟨go, yl⟩ := wk.go s' i x t2 R2 hg1 hx1
            refine .inr ⟨go, Inv' (i + 1), fun H' k => ⟨items.length - (i + 1), by omega, rfl, hlt, k⟩, fun v H' y => ?_⟩
            obtain ⟨s3, e3, h3, t3, R3, rv3⟩ := yl v H' y
            subst e3
            refine gP_ok (X := X) (fun i _ => Gx.off_of hxs i) rv3 (evw.mono (t2.trans t3)) hb fun σ' ev' hw => ⟨by rw [hw _ hp, ← hσ, wipe_wipe fun _ h => h], ?_⟩
            rw [← h3, bind_assocR] at pE
            refine ⟨s3, ρ2, rfl, R3, ev', (Post.bindAt (rel' := rB) (t2.trans t3) pE).imp fun b H4 ⟨s4, b', e4, t4, R4, q4, p4⟩ => ?_⟩
            subst e4
            cases (show b' = b from q4)
            cases b with
            | false =>
              rw [if_neg Bool.false_ne_true]
              have p4 : Post G W σ (rV G) s1 ((loopC g p mt me ρw (items.drop (i + 1)) s4.h).bind fun ys h => newL mk (acc ++ ys) h) Q := p4
              have t5 := t3.trans t4
              obtain ⟨x5, d5⟩ := t5.exk D hx
              exact ⟨s4, acc, us, rfl, t2.trans t5, R4, x5, d5.trans hD2, RVs.mono t5 rs, by omega, p4⟩
            | true =>
              rw [if_pos rfl]
              have p4 : Post G W σ (rV G) s1 (((me ρ2 s4.h).bind fun y h => (loopC g p mt me ρw (items.drop (i + 1)) h).bind fun ys h => .ok (y :: ys) h).bind fun ys h => newL mk (acc ++ ys) h) Q := p4
              rw [bind_assocR] at p4
              refine ⟨s4, ρ2, rfl, R4, ev'.mono t4, (Post.bindAt (rel' := rV G) ((t2.trans t3).trans t4) p4).imp fun y H6 ⟨s6, d, e6, t6, R6, q6, p6⟩ => ?_⟩
              subst e6
              rw [bind_assocR] at p6
              have t5 := (t3.trans t4).trans t6
              obtain ⟨x5, d5⟩ := t5.exk D hx
              have d6 : s6.H D = some (.lst us) := d5.trans hD2
              have rs6 : s6.RVs G (acc ++ [d]) (us ++ [y]) := RVs.append (RVs.mono t5 rs) (RVs.one q6)
              have e9 : (fun (ys : List Mini.D) (h : Hm) => newL mk (acc ++ (d :: ys)) h) = fun ys h => newL mk ((acc ++ [d]) ++ ys) h := by
                funext ys h
                rw [List.append_assoc]; rfl
              have p6 : Post G W σ (rV G) s1 ((loopC g p mt me ρw (items.drop (i + 1)) s6.h).bind fun ys h => newL mk (acc ++ (d :: ys)) h) Q := p6
              rw [e9] at p6
              refine ⟨us, d6, ?_, s6.app D (.lst (us ++ [y])), acc ++ [d], us ++ [y], rfl, ?_, R6.app x5, x5, upd_same, RVs.monoZ (TZ.app x5) rs6, by rw [List.length_append]; show _ + 1 ≤ _; omega, p6⟩
              · rw [big_eq, ← RVs.length rs]
                omega
              · have t8 := t2.trans t5
                exact ⟨t8.al, fun p o e k => by
                  obtain ⟨e9, k9⟩ := t8.keep p o e k
                  exact ⟨(upd_ne (ne_of_none e hD)).trans e9, k9⟩, fun p z => ⟨(t8.exk p z).1, (upd_ne (R1.exne hD z)).trans (t8.exk p z).2⟩⟩
        · rw [if_neg hg1] at pE; exact pE.elim
      · have ei : i = items.length := by omega
        subst ei
        rw [List.drop_length] at pE
        unfold loopC at pE
        by_cases hg1 : guardOk g s'.h = true
        · rw [if_pos hg1] at pE
          have pE : Post G W σ (rV G) s1 (newL mk (acc ++ []) s'.h) Q := pE
          rw [List.append_nil] at pE
          exact .inl ⟨wk.stop s' _ t2 R2 hg1 (Nat.le_refl _), lc_end hD R1 t2 R2 hx hD2 rs pE⟩
        · rw [if_neg hg1] at pE; exact pE.elim
  · exact p1.elim
theorem snd_compX {mk : Bool} {elt tg iter : Expr} {ifs : List Expr} {scope : Scope} {own : List (Str × Nat)} {pos : Pos} {p : Pt} {mi : En → Hm → Res Walk} {mt : En → Hm → Res Bool} {me : En → Hm → Res Mini.D}
    (hst : X.stack = X.env :: X.outer) (hf : X.env.frame = some X.env.locals) (tk : Takes X W) (hx : G.exs = none) (hc : X.calm = true) (hN : X.N.Nodup) (hi : PI X tg iter (rdI G W mi)) (ok : BlkOk X.N X.env.scope scope own)
    (hg : ∀ (s : Shared) (H : Hp) (C : Addr) (cl : List (Str × Addr)) (fp : List Addr) (xe : Value → Shared → Prop), PG (X.blkX s H scope (compEnvC scope cl C X.env) fp xe) tg (gP X.K p))
    (ht : ∀ (W' : WX) (s : Shared) (H : Hp) (C : Addr) (cl : List (Str × Addr)) (fp : List Addr) (xe : Value → Shared → Prop), Takes (X.blkX s H scope (compEnvC scope cl C X.env) fp xe) W' → PTs (X.blkX s H scope (compEnvC scope cl C X.env) fp xe) ifs (rdT G W' mt))
    (he : ∀ (W' : WX) (s : Shared) (H : Hp) (C : Addr) (cl : List (Str × Addr)) (fp : List Addr) (xe : Value → Shared → Prop), Takes (X.blkX s H scope (compEnvC scope cl C X.env) fp xe) W' → PE (X.blkX s H scope (compEnvC scope cl C X.env) fp xe) elt (rdE G W' me))
    (hs : ∀ x, foldedSetIterable iter X.env x = pure x) (hp : ∀ i ∈ p.slots, i ∈ own.map (·.2)) :
    PE X (.ListComp elt [⟨tg, iter, ifs, 0⟩] scope pos) (rdE G W (compMX mi p mt me mk (own.map (·.2)))) :=
  ⟨fun pins s σ H Q I h => pe_lcX hst hf tk hc hN hi ok hg (fun s H C cl fp xe tk' => ht _ s H C cl fp xe tk') (fun s H C cl fp xe tk' => he _ s H C cl fp xe tk') hs I (comp_rdX hx hp σ H Q h)⟩
end
end L2.Mini
set_option Elab.async false
set_option linter.all false
set_option maxRecDepth 100000
set_option maxHeartbeats 1000000
/-! Mini, part 12: statements. -/
namespace L2.Mini
open PySem PySem.Spec PyProof.Rows

section
variable {G : Gx} {W : WX} {X : Cx} [KEq G X.K] [WEq G X.w]
theorem PS.imp {st : Stmt} {t t' : TS} (h : PS X st t) (k : ∀ D σ H, t' D σ H → t D σ H) : PS X st t' := ⟨fun pins s σ H D I w => h.run pins s σ H D I (k D σ H w)⟩
theorem PSs.imp {st : List Stmt} {t t' : TS} (h : PSs X st t) (k : ∀ D σ H, t' D σ H → t D σ H) : PSs X st t' := ⟨fun pins s σ H D I w => h.run pins s σ H D I (k D σ H w)⟩
theorem PostS.next {s : Sx} {ρ : En} {σ : St} {D : Ends} {h : Hm} (p : PostS G W s (.ok .next ρ h) D) (s' : Sx) (e : s'.h = h) (t : TR s s') (R : REL G s') (ev : EV G s' ρ σ) : D.nx σ s'.H := p s' σ e t R ev
theorem snd_noE {e : Expr} : PE X e (rdE G W fun _ _ => .stuck) := ⟨fun _ _ _ _ _ _ ⟨_, _, _, _, _, p⟩ => p.elim⟩
theorem snd_noT {e : Expr} : PT X e (rdT G W (tst fun _ _ => .stuck)) := ⟨fun _ _ _ _ _ _ ⟨_, _, _, _, _, p⟩ => p.elim⟩
theorem snd_noI {tg e : Expr} : PI X tg e (rdI G W fun _ _ => .stuck) := ⟨fun _ _ _ _ _ _ ⟨_, _, _, _, _, p⟩ => p.elim⟩
theorem snd_noS {st : Stmt} : PS X st (rdS G W fun _ _ => .stuck) := ⟨fun _ _ _ _ _ _ ⟨_, _, _, _, _, p⟩ => p.elim⟩
theorem snd_noSs {st : List Stmt} : PSs X st (rdS G W fun _ _ => .stuck) := ⟨fun _ _ _ _ _ _ ⟨_, _, _, _, _, p⟩ => p.elim⟩

/-! ### stores -/
theorem set_rd {cur : Cur} {p : Pt} {me : En → Hm → Res D} (hx : ∀ i ∈ p.slots, G.off i) : ∀ Dd σ H, rdS G W (fun ρ h => onE ρ (me ρ h) fun x h => setP cur p x ρ h) Dd σ H → rdE G W me σ H (fun x H1 => gP X.K p x σ H1 Dd.nx) := fun Dd σ H ⟨s, ρ, e, R, ev, p0⟩ => by
  subst e
  refine ⟨s, ρ, rfl, R, ev, (PostS.onE ev p0).imp fun v H1 ⟨s1, d, e1, t1, R1, q1, p1⟩ => ?_⟩
  subst e1
  unfold setP at p1
  split at p1
  · rename_i ρ2 hb
    split at p1
    · exact p1.elim
    · exact gP_ok (X := X) hx q1 (ev.mono t1) hb fun σ' ev' _ => p1.next s1 rfl (TR.refl _) R1 ev'
  · exact p1.elim
theorem snd_asg {cur : Cur} {p : Pt} {tg e : Expr} {pos : Pos} {me : En → Hm → Res D} (hx : ∀ i ∈ p.slots, G.off i) (he : PE X e (rdE G W me)) (hg : PG X tg (gP X.K p)) (hs : swapsWithSole [tg] e pos.line X.env = pure false) (hw : swappedStores [tg] e X.env = pure none)
    (h1 : (assignEach [tg] X.env).map (·.2) = [assign tg X.env]) : PS X (.Assign [tg] e pos) (rdS G W fun ρ h => onE ρ (me ρ h) fun x h => setP cur p x ρ h) :=
  PS.imp (ps_asg he hg hs hw h1) (set_rd hx)
theorem snd_setLc {cur : Cur} {i : Nat} {y : Str} {py : Pos} {mk : Bool} {elt tg iter : Expr} {ifs : List Expr} {scope : Scope} {own : List (Str × Nat)} {pos spos : Pos} {p : Pt} {mi : En → Hm → Res Walk} {mt : En → Hm → Res Bool} {me : En → Hm → Res Mini.D}
    (hx : G.exs = none) (hc : X.calm = true) (hN : X.N.Nodup) (hy : X.N[i]? = some y) (hyl : X.env.scope.names.lookup y = some .local) (hsw : swapsWith (.ListComp elt [⟨tg, iter, ifs, 0⟩] scope pos) (some (.Name y py)) spos.line X.env = pure true)
    (hi : PI X tg iter (rdI G W mi)) (ok : BlkOk X.N X.env.scope scope own)
    (hg : ∀ (s : Shared) (H : Hp) (C : Addr) (cl : List (Str × Addr)) (fp : List Addr), PG (X.blk s H scope (compEnvC scope cl C X.env) fp) tg (gP X.K p))
    (ht : ∀ (s : Shared) (H : Hp) (C : Addr) (cl : List (Str × Addr)) (fp : List Addr), PTs (X.blk s H scope (compEnvC scope cl C X.env) fp) ifs (rdT G WF mt))
    (he : ∀ (s : Shared) (H : Hp) (C : Addr) (cl : List (Str × Addr)) (fp : List Addr), PE (X.blk s H scope (compEnvC scope cl C X.env) fp) elt (rdE G WF me))
    (hs : ∀ x, foldedSetIterable iter X.env x = pure x) (hp : ∀ i ∈ p.slots, i ∈ own.map (·.2)) :
    PS X (.Assign [.Name y py] (.ListComp elt [⟨tg, iter, ifs, 0⟩] scope pos) spos) (rdS G W fun ρ h => onE ρ (compM mi p mt me mk (own.map (·.2)) ρ h) fun x h => setP cur (.one i) x ρ h) :=
  PS.imp (ps_setLc hc hN hy hyl hsw hi ok hg ht he hs) fun Dd σ H r => comp_rd hx hp σ H _ (set_rd (X := X) (fun i _ => Gx.off_of hx i) Dd σ H r)
theorem snd_fld {C : Calls} (hfl : ∀ c f, C.fl c f = true → Cls X.K (G.ca c) ∧ NoAttr X.K (G.ca c) (G.nm f)) {o value : Expr} {f : Nat} {pos pos' : Pos} {mv mo : En → Hm → Res D} (ho : PE X o (rdE G W mo)) (hv : PE X value (rdE G W mv))
    (hs : swapsWith value (some (.Attribute o (G.nm f) pos')) pos.line X.env = pure false) :
    PS X (.Assign [.Attribute o (G.nm f) pos'] value pos) (rdS G W fun ρ h => onE ρ (mv ρ h) fun v h => onE ρ (mo ρ h) fun x h => setAD C x f v ρ h) :=
  PS.imp (ps_fld ho hv hs) fun Dd σ H ⟨s, ρ, e, R, ev, p0⟩ => by
    subst e
    refine ⟨s, ρ, rfl, R, ev, (PostS.onE ev p0).imp fun v H1 ⟨s1, d, e1, t1, R1, q1, p1⟩ => ?_⟩
    subst e1
    refine ⟨s1, ρ, rfl, R1, ev.mono t1, (PostS.onE (ev.mono t1) p1).imp fun x H2 ⟨s2, d2, e2, t2, R2, q2, p2⟩ => ?_⟩
    subst e2
    unfold setAD at p2
    split at p2
    · split at p2
      · rename_i n _ c fs hn
        split at p2
        · rename_i hf
          obtain ⟨hf1, hf2⟩ := Bool.and_eq_true_iff.mp hf
          obtain ⟨c1, c2⟩ := hfl c f hf1
          obtain ⟨p', rfl, a⟩ := q2
          obtain ⟨dx, us, hp, r⟩ := R2.node _ _ p' hn a
          have t3 : TR s2 (s2.put n p' (.ins c (putF f d fs)) (.ins (G.ca c) dx (L2.putF (G.nm f) v us))) := TR.put R2 hn (by intro z; cases z) a
          refine ⟨p', _, dx, us, rfl, hp, c1, c2, by rw [← RFs.length r]; exact of_decide_eq_true hf2, ?_⟩
          exact p2.next (s2.put n p' (.ins c (putF f d fs)) (.ins (G.ca c) dx (L2.putF (G.nm f) v us))) rfl t3 (R2.put hn (by intro z; cases z) a ⟨dx, _, upd_same, RFs.mono t3 (RFs.put (RV.mono t2 q1) r)⟩) (((ev.mono t1).mono t2).mono t3)
        · exact p2.elim
      · exact p2.elim
    · exact p2.elim
theorem set_seq (hu : X.A.units + 9 < cLine) : PSet X (fun o i v H Q => rSetL o i v H Q ∨ L2.rSetD o i v H Q ∨ rSetT X.w o i v H Q) := fun pins s σ H o i v ov iv u Q I r1 r2 r3 h =>
  h.elim (fun h => set_list pins s σ H o i v ov iv u Q I r1 r2 r3 h) fun h => h.elim (fun h => set_dict (by omega) pins s σ H o i v ov iv u Q I r1 r2 r3 h) fun h => set_dit hu pins s σ H o i v ov iv u Q I r1 r2 r3 h
theorem snd_setI (hu : X.A.units + 65 < cLine) {o i value : Expr} {pos pos' : Pos} {mv mo mi : En → Hm → Res D} (ho : PE X o (rdE G W mo)) (hi : PE X i (rdE G W mi)) (hv : PE X value (rdE G W mv)) (hs : swapsWithSole [.Subscript o i pos'] value pos.line X.env = pure false)
    (ha : ∀ v, assign (.Subscript o i pos') X.env v = (do
      let ov ← holding [v] (eval o X.env)
      let iv ← holding [v, ov] (eval i X.env)
      standAt pos'
      holding [v, ov, iv] (setItem ov iv v)
      release [v, ov, iv] [])) :
    PS X (.Assign [.Subscript o i pos'] value pos) (rdS G W fun ρ h => onE ρ (mv ρ h) fun v h => onE ρ (mo ρ h) fun x h => onE ρ (mi ρ h) fun y h => setID x y v ρ h) :=
  PS.imp (ps_asg hv (pg_sub ho hi (set_seq (by omega)) ha) hs rfl rfl) fun Dd σ H ⟨s, ρ, e, R, ev, p0⟩ => by
    subst e
    refine ⟨s, ρ, rfl, R, ev, (PostS.onE ev p0).imp fun v H1 ⟨s1, d, e1, t1, R1, q1, p1⟩ => ?_⟩
    subst e1
    have ev1 := ev.mono t1
    refine ⟨s1, ρ, rfl, R1, ev1, (PostS.onE ev1 p1).imp fun x H2 ⟨s2, d2, e2, t2, R2, q2, p2⟩ => ?_⟩
    subst e2
    have ev2 := ev1.mono t2
    refine ⟨s2, ρ, rfl, R2, ev2, (PostS.onE ev2 p2).imp fun y H3 ⟨s3, d3, e3, t3, R3, q3, p3⟩ => ?_⟩
    subst e3
    have q2' := RV.mono t3 q2
    clear p0 p1 p2
    unfold setID at p3
    split at p3
    · rename_i n _
      split at p3
      · rename_i xs k hn
        split at p3
        · rename_i j hj
          obtain ⟨p', rfl, a⟩ := q2'
          obtain ⟨us, hp, r⟩ := R3.node _ _ p' hn a
          cases (show y = V.int k from q3)
          have t4 : TR s3 (s3.put n p' (.lst (xs.set j d)) (.lst (us.set j v))) := TR.put R3 hn (by intro z; cases z) a
          refine .inl ⟨p', us, k, j, rfl, rfl, hp, by rw [← RVs.length r]; exact hj, ?_⟩
          exact p3.next (s3.put n p' (.lst (xs.set j d)) (.lst (us.set j v))) rfl t4 (R3.put hn (by intro z; cases z) a ⟨_, upd_same, RVs.mono t4 (RVs.set (RV.mono (t2.trans t3) q1) j r)⟩) ((ev2.mono t3).mono t4)
        · exact p3.elim
      · rename_i ky _ _ kvs hn
        obtain ⟨p', rfl, a⟩ := q2'
        obtain ⟨us, hp, r⟩ := R3.node _ _ p' hn a
        split at p3
        · rename_i hk
          obtain ⟨hk, hl⟩ := Bool.and_eq_true_iff.mp hk
          obtain ⟨kk, hk⟩ := keyK_of hk
          cases keyK_rv hk q3
          have t4 : TR s3 (s3.put n p' (.dic (dput kvs ky d)) (.dK (putK us kk v))) := TR.put R3 hn (by intro z; cases z) a
          refine .inr (.inl ⟨p', _, rfl, .k hp (by rw [← RKs.length r, big_eq]; exact of_decide_eq_true hl), ?_⟩)
          exact p3.next (s3.put n p' (.dic (dput kvs ky d)) (.dK (putK us kk v))) rfl t4 (R3.put hn (by intro z; cases z) a ⟨_, upd_same, RKs.mono t4 (RKs.put hk (RV.mono (t2.trans t3) q1) r)⟩) ((ev2.mono t3).mono t4)
        · exact p3.elim
      · rename_i ky _ _ kvs hn
        obtain ⟨p', rfl, a⟩ := q2'
        obtain ⟨us, hp, r, nd, hbig⟩ := R3.node _ _ p' hn a
        have hw : G.w = X.w := WEq.eq
        split at p3
        · rename_i hk
          obtain ⟨hk, hl⟩ := Bool.and_eq_true_iff.mp hk
          obtain ⟨xs, kk, rfl, hk, kd⟩ := isTK_nk hk
          obtain ⟨p0, ws, rfl, _⟩ := id q3
          have hlen := RTs.length r
          refine .inr (.inr ⟨p', p0, us, kk, rfl, rfl, by rw [← hw]; exact hp, by rw [← hlen, big_eq]; exact hbig, fun P h ok => ⟨⟨nested_of ok q3 rfl hk, kd⟩, dit_of ok hw (.inl hp) r nd⟩, fun u ru => ?_⟩)
          rw [← hw]
          have t4 : TR s3 (s3.put n p' (.dit (dput kvs (.tup xs) d)) (.ext (DFx G.w p' (storedH us kk p0 u)))) := TR.put R3 hn (by intro z; cases z) a
          exact p3.next (s3.put n p' (.dit (dput kvs (.tup xs) d)) (.ext (DFx G.w p' (storedH us kk p0 u)))) rfl t4 (R3.put hn (by intro z; cases z) a ⟨_, upd_same, RTs.mono t4 (RTs.put hk kd q3 (RV.mono (t2.trans t3) q1) ru r), stored_nodup nd, by
            have := dput_len kvs (.tup xs) d
            have := of_decide_eq_true hl
            omega⟩) ((ev2.mono t3).mono t4)
        · exact p3.elim
      · exact p3.elim
    · exact p3.elim
theorem snd_aug {i : Nat} {x : Str} {e : Expr} {op : Bop} {pos pos' : Pos} {me : En → Hm → Res D} (hof : G.off i) (hop : op = .add ∨ op = .sub) (hN : X.N.Nodup) (hi : X.N[i]? = some x) (hx : Loc X.env.scope x) (hf : X.fn x = true ∨ X.env.scope.names.lookup x = some .local) (he : PE X e (rdE G W me)) :
    PS X (.AugAssign (.Name x pos') op.op e pos) (rdS G W fun ρ h => augD i op (me ρ h) ρ) := by
  have ip : PIp X op.op (fun x y H Q => ∃ a b c, x = .int a ∧ y = .int b ∧ augI op (.int a) (.int b) = some c ∧ Q (.int c) H) := by
    rcases hop with rfl | rfl
    · intro pins s σ H x y v u Q I r1 r2 ⟨a, b, c, e1, e2, e3, q⟩
      cases e3
      exact ip_add pins s σ H x y v u Q I r1 r2 ⟨a, b, e1, e2, q⟩
    · intro pins s σ H x y v u Q I r1 r2 ⟨a, b, c, e1, e2, e3, q⟩
      cases e3
      exact ip_sub pins s σ H x y v u Q I r1 r2 ⟨a, b, e1, e2, q⟩
  refine PS.imp (ps_aug hN hi hx he ip hf) fun Dd σ H ⟨s, ρ, e, R, ev, p0⟩ => ?_
  subst e
  unfold augD at p0
  dsimp only at p0
  split at p0
  · rename_i d hd
    obtain ⟨v, h1, h2⟩ := ev.at_ i d hd
    refine ⟨v, h1, s, ρ, rfl, R, ev, (PostS.onE ev p0).imp fun y H1 ⟨s1, d1, e1, t1, R1, q1, p1⟩ => ?_⟩
    subst e1
    split at p1
    · rename_i z hz
      have hz0 := hz
      clear p0
      unfold augI at hz
      split at hz
      · rename_i a b _ _
        cases (show v = V.int a from h2); cases (show y = V.int b from q1)
        exact ⟨a, b, z, rfl, rfl, hz0, p1.next s1 rfl (TR.refl _) R1 ((ev.mono t1).set i hof (show s1.RV G (.int z) (.int z) from rfl))⟩
      · rename_i a b _ _
        cases (show v = V.int a from h2); cases (show y = V.int b from q1)
        exact ⟨a, b, z, rfl, rfl, hz0, p1.next s1 rfl (TR.refl _) R1 ((ev.mono t1).set i hof (show s1.RV G (.int z) (.int z) from rfl))⟩
      · cases hz
    · exact p1.elim
  · exact p0.elim

/-! ### the rest -/
theorem snd_expr {e : Expr} {pos : Pos} {me : En → Hm → Res D} (he : PE X e (rdE G W me)) (hs : swapsWith e none pos.line X.env = pure false) : PS X (.Expr e pos) (rdS G W fun ρ h => onE ρ (me ρ h) fun _ h => .ok .next ρ h) :=
  PS.imp (ps_expr he hs) fun Dd σ H ⟨s, ρ, e, R, ev, p0⟩ => by
    subst e
    refine ⟨s, ρ, rfl, R, ev, (PostS.onE ev p0).imp fun v H1 ⟨s1, d, e1, t1, R1, q1, p1⟩ => ?_⟩
    subst e1
    exact p1.next s1 rfl (TR.refl _) R1 (ev.mono t1)
theorem snd_ret {e : Expr} {pos : Pos} {me : En → Hm → Res D} (he : PE X e (rdE G W me)) : PS X (.Return (some e) pos) (rdS G W fun ρ h => onE ρ (me ρ h) fun x h => .ok (.ret x) ρ h) :=
  PS.imp (ps_ret he) fun Dd σ H ⟨s, ρ, e, R, ev, p0⟩ => by
    subst e
    refine ⟨s, ρ, rfl, R, ev, (PostS.onE ev p0).imp fun v H1 ⟨s1, d, e1, t1, R1, q1, p1⟩ => ?_⟩
    subst e1
    exact p1 s1 σ rfl (TR.refl _) R1 (ev.mono t1) v q1
theorem snd_retN {pos : Pos} : PS X (.Return none pos) (rdS G W fun ρ h => .ok (.ret .non) ρ h) :=
  PS.imp ps_retN fun Dd σ H ⟨s, ρ, e, R, ev, p0⟩ => by
    subst e
    exact p0 s σ rfl (TR.refl _) R ev .non rfl
theorem snd_pass {pos : Pos} : PS X (.Pass pos) (rdS G W fun ρ h => .ok .next ρ h) :=
  PS.imp ps_pass fun Dd σ H ⟨s, ρ, e, R, ev, p0⟩ => by
    subst e
    exact p0.next s rfl (TR.refl _) R ev
theorem snd_brk {pos : Pos} : PS X (.Break pos) (rdS G W fun ρ h => .ok .brk ρ h) :=
  PS.imp ps_break fun Dd σ H ⟨s, ρ, e, R, ev, p0⟩ => by
    subst e
    exact p0 s σ rfl (TR.refl _) R ev
theorem snd_cont {pos : Pos} : PS X (.Continue pos) (rdS G W fun ρ h => .ok .cont ρ h) :=
  PS.imp ps_continue fun Dd σ H ⟨s, ρ, e, R, ev, p0⟩ => by
    subst e
    exact p0 s σ rfl (TR.refl _) R ev
theorem snd_nilS : PSs X [] (rdS G W fun ρ h => .ok .next ρ h) :=
  PSs.imp pss_nil fun Dd σ H ⟨s, ρ, e, R, ev, p0⟩ => by
    subst e
    exact p0.next s rfl (TR.refl _) R ev
def seqS (r : SRes) (k : En → Hm → SRes) : SRes := match r with
  | .ok .next ρ h => k ρ h
  | x => x
theorem snd_consS {st : Stmt} {rest : List Stmt} {m k : En → Hm → SRes} (h1 : PS X st (rdS G W m)) (h2 : PSs X rest (rdS G W k)) : PSs X (st :: rest) (rdS G W fun ρ h => seqS (m ρ h) k) :=
  PSs.imp (pss_cons h1 h2) fun Dd σ H ⟨s, ρ, e, R, ev, p0⟩ => by
    subst e
    refine ⟨s, ρ, rfl, R, ev, ?_⟩
    dsimp only at p0
    cases e1 : m ρ s.h with
    | ok f ρ1 h1 =>
      rw [e1] at p0
      cases f with
      | next => exact fun s' σ' eh t R' ev' => ⟨s', ρ1, rfl, R', ev', by rw [eh]; exact PostS.shift t p0⟩
      | brk => exact p0
      | cont => exact p0
      | ret d => exact p0
    | exc c fs ρ1 h1 => rw [e1] at p0; exact p0
    | stuck => rw [e1] at p0; exact p0
theorem snd_ite {c : Expr} {a a2 : List Stmt} {pos : Pos} {mc : En → Hm → Res Bool} {ma mb : En → Hm → SRes} (hc : PT X c (rdT G W mc)) (ha : PSs X a (rdS G W ma)) (hb : PSs X a2 (rdS G W mb)) :
    PS X (.If c a a2 pos) (rdS G W fun ρ h => onE ρ (mc ρ h) fun x h => if x then ma ρ h else mb ρ h) :=
  PS.imp (ps_if hc ha hb) fun Dd σ H ⟨s, ρ, e, R, ev, p0⟩ => by
    subst e
    refine ⟨s, ρ, rfl, R, ev, (PostS.onE ev p0).imp fun b H1 ⟨s1, d, e1, t1, R1, q1, p1⟩ => ?_⟩
    subst e1
    cases (show d = b from q1)
    cases b with
    | true => exact ⟨s1, ρ, rfl, R1, ev.mono t1, p1⟩
    | false => exact ⟨s1, ρ, rfl, R1, ev.mono t1, p1⟩
theorem snd_while {c : Expr} {body : List Stmt} {pos : Pos} {mc : En → Hm → Res Bool} {mb : En → Hm → SRes} {fuel : Nat} (hp : PassesOwn (model X.prog X.w) X.A X.env X.xe) (hc : PT X c (rdT G W mc)) (hb : PSs X body (rdS G W mb)) :
    PS X (.While c body [] pos) (rdS G W fun ρ h => loopW mc mb fuel ρ h) :=
  PS.imp (ps_while hp hc hb) fun Dd σ H ⟨s, ρ, e, R, ev, p0⟩ => by
    refine ⟨fun m σ H => ∃ (s' : Sx) (ρ' : En), s'.H = H ∧ REL G s' ∧ EV G s' ρ' σ ∧ PostS G W s' (loopW mc mb m ρ' s'.h) Dd, ⟨fuel, s, ρ, e, R, ev, p0⟩, ?_⟩
    rintro m σ H ⟨s, ρ, e, R, ev, p0⟩
    subst e
    cases m with
    | zero => exact p0.elim
    | succ m =>
      unfold loopW at p0
      refine ⟨s, ρ, rfl, R, ev, ?_⟩
      cases e1 : mc ρ s.h with
      | ok b h1 =>
        rw [e1] at p0
        intro s1 b' eh t1 R1 q1
        cases (show b = b' from q1)
        cases b with
        | true =>
          rw [if_pos rfl]
          refine ⟨fun σ' H' => ∃ (s' : Sx) (ρ' : En), s'.H = H' ∧ REL G s' ∧ EV G s' ρ' σ' ∧ PostS G W s' (loopW mc mb m ρ' s'.h) Dd, fun σ' H' h => ⟨m, Nat.lt_succ_self m, h⟩, s1, ρ, rfl, R1, ev.mono t1, ?_⟩
          dsimp only at p0
          rw [← eh] at p0
          replace p0 := PostS.shift t1 p0
          cases e2 : mb ρ s1.h with
          | ok f ρ2 h2 =>
            rw [e2] at p0
            cases f with
            | next => exact fun s' σ' eh2 t R' ev' => ⟨s', ρ2, rfl, R', ev', by rw [eh2]; exact PostS.shift t p0⟩
            | cont => exact fun s' σ' eh2 t R' ev' => ⟨s', ρ2, rfl, R', ev', by rw [eh2]; exact PostS.shift t p0⟩
            | brk => exact p0
            | ret d => exact p0
          | exc c fs ρ2 h2 => rw [e2] at p0; exact p0
          | stuck => rw [e2] at p0; exact p0
        | false =>
          rw [if_neg Bool.false_ne_true]
          exact p0 s1 σ eh t1 R1 (ev.mono t1)
      | exc c fs h1 =>
        rw [e1] at p0
        exact fun s' dx eh t R' x => p0 s' σ dx eh t R' (ev.mono t) x
      | stuck => rw [e1] at p0; exact p0
def bodyP (p : Pt) (mb : En → Hm → SRes) (x : D) (ρ : En) (h : Hm) : SRes := match bindP p x ρ with
  | some ρ => mb ρ h
  | none => .stuck
theorem snd_for {tg iter : Expr} {body : List Stmt} {pos : Pos} {p : Pt} {mi : En → Hm → Res Walk} {mb : En → Hm → SRes} (hx : ∀ i ∈ p.slots, G.off i) (hp : PassesOwn (model X.prog X.w) X.A X.env X.xe) (hc : X.calm = true) (hi : PI X tg iter (rdI G W mi)) (hg : PG X tg (gP X.K p)) (hb : PSs X body (rdS G W mb))
    (hs : ∀ x, foldedSetIterable iter X.env x = pure x) :
    PS X (.For tg iter body [] pos) (rdS G W fun ρ h => onE ρ (mi ρ h) fun w h => loopF w.2 (bodyP p mb) w.1 ρ h) :=
  PS.imp (ps_for hp hc hi hg hb hs) fun Dd σ H ⟨s, ρ, e, R, ev, p0⟩ => by
    subst e
    refine ⟨s, ρ, rfl, R, ev, (PostS.onE (rel := Wk G) ev p0).imp fun J H1 ⟨s1, w, e1, t1, R1, wk, p1⟩ => ?_⟩
    subst e1
    obtain ⟨items, g⟩ := w
    let Iv : Nat → St → Hp → Prop := fun i σ H => ∃ (s' : Sx) (ρ' : En), s'.H = H ∧ TR s1 s' ∧ REL G s' ∧ EV G s' ρ' σ ∧ PostS G W s' (loopF g (bodyP p mb) (items.drop i) ρ' s'.h) Dd
    refine ⟨fun i m σ H => m = items.length - i ∧ i ≤ items.length ∧ Iv i σ H, ⟨items.length, by simp, Nat.zero_le _, s1, ρ, rfl, TR.refl _, R1, ev.mono t1, p1⟩, ?_⟩
    rintro i m σ H ⟨rfl, hi, s2, ρ2, e2, t2, R2, ev2, p2⟩
    subst e2
    by_cases hlt : i < items.length
    · obtain ⟨x, hx1⟩ : ∃ x, items[i]? = some x := ⟨items[i], List.getElem?_eq_getElem hlt⟩
      have ed : items.drop i = x :: items.drop (i + 1) := by
        rw [List.drop_eq_getElem_cons hlt]
        rw [List.getElem?_eq_getElem hlt] at hx1
        cases hx1; rfl
      rw [ed] at p2
      unfold loopF at p2
      split at p2
      · rename_i hg1
        unfold bodyP at p2
        obtain ⟨go, yl⟩ := wk.go s2 i x t2 R2 hg1 hx1
        refine .inr ⟨go, Iv (i + 1), fun σ' H' k => ⟨items.length - (i + 1), by omega, rfl, hlt, k⟩, fun v H' y => ?_⟩
        obtain ⟨s3, e3, h3, t3, R3, rv3⟩ := yl v H' y
        subst e3
        cases hb1 : bindP p x ρ2 with
        | none => rw [hb1] at p2; exact p2.elim
        | some ρ3 =>
          rw [hb1] at p2
          refine gP_ok (X := X) hx rv3 (ev2.mono t3) hb1 fun σ' ev' _ => ⟨s3, ρ3, rfl, R3, ev', ?_⟩
          rw [← h3] at p2
          replace p2 := PostS.shift t3 p2
          dsimp only at p2
          cases e4 : mb ρ3 s3.h with
          | ok f ρ4 h4 =>
            rw [e4] at p2
            cases f with
            | next => exact fun s' σ' eh2 t R' ev' => ⟨s', ρ4, rfl, (t2.trans t3).trans t, R', ev', by rw [eh2]; exact PostS.shift t p2⟩
            | cont => exact fun s' σ' eh2 t R' ev' => ⟨s', ρ4, rfl, (t2.trans t3).trans t, R', ev', by rw [eh2]; exact PostS.shift t p2⟩
            | brk => exact p2
            | ret d => exact p2
          | exc c fs ρ2 h2 => rw [e4] at p2; exact p2
          | stuck => rw [e4] at p2; exact p2
      · exact p2.elim
    · have ei : i = items.length := by omega
      subst ei
      rw [List.drop_length] at p2
      unfold loopF at p2
      split at p2
      · rename_i hg1
        exact .inl ⟨wk.stop s2 _ t2 R2 hg1 (Nat.le_refl _), p2.next s2 rfl (TR.refl _) R2 ev2⟩
      · exact p2.elim
end
end L2.Mini
set_option Elab.async false
set_option linter.all false
set_option maxRecDepth 100000
set_option maxHeartbeats 1000000
/-! Mini: a dict with tuples as keys, walked by a loop: it is locked, its node shut. -/
namespace L2.Mini
open PySem PySem.Spec PyProof.Rows

theorem Inv.frzN {X : Cx} {pins : List (Addr × Obj)} {σ : St} {H : Hp} {s : Shared} {d : Addr} {o : Obj} {w : World} {us : List (NestedKey × Addr × Value)} (I : Inv X pins σ H s) (h : H d = some (.frz o (.ext (DFx w d us)))) :
    (d == sysModules) = false ∧ s.heap.get? d = some o ∧ o.ExactDict ∧ ∃ (es : Array DictEntry) (ep : Nat), o.data = .dict es ep ∧ es.size = us.length ∧ ∀ (i : Nat) y, us[i]? = some y → ∃ en : DictEntry, es[i]? = some en ∧ en.key = .ref y.2.1 := by
  obtain ⟨hd, ⟨h1, o', es, ep, h2, h3, h4, h5⟩, _⟩ := I.hok d _ h
  rw [hd] at h2
  cases h2
  refine ⟨h1, hd, h3, es, ep, h4, by rw [← Array.length_toList, h5, List.length_map], fun i y e => ?_⟩
  refine ⟨⟨y.1.hash w, .ref y.2.1, y.2.2⟩, ?_, rfl⟩
  rw [← Array.getElem?_toList, h5, List.getElem?_map, e]
  rfl
/-- the keys of the locked dict at d -/
def Itn (w : World) (d : Addr) (o : Obj) (us : List (NestedKey × Addr × Value)) : L2.It :=
  ⟨fun i H => H d = some (.frz o (.ext (DFx w d us))) ∧ i < us.length, fun i H x H' => H' = H ∧ ∃ y, us[i]? = some y ∧ x = .ref y.2.1, fun i H => H d = some (.frz o (.ext (DFx w d us))) ∧ us.length ≤ i⟩
theorem turn_keysN {P : Program} {w : World} {K : PySem.W.Frag} {tg : Expr} {d : Addr} {o : Obj} {es : Array DictEntry} {ep : Nat} {wd : World} {us : List (NestedKey × Addr × Value)} (it : Addr) (hod : o.data = .dict es ep) : Turn P w K tg (Itn wd d o us) [it] it (fun i h => h.IsKeyIter it d i us.length ep) where
  mem := by simp
  obj := fun i h st b hb => by
    have e : b = it := by simpa using hb
    subst e
    obtain ⟨oi, e, c, dd⟩ := st
    exact ⟨oi, e, fun v z => by rw [dd] at z; cases z⟩
  keep := fun i h h' st k => st.at fun oi e => k it (by simp) oi e
  item := by
    intro X hP hw hK hc i pins s σ H E I hf st hg
    subst hP hw hK
    obtain ⟨hd, hi⟩ := hg
    obtain ⟨f0, f1, f2, f3, f4, f5⟩ := hf it (by simp)
    obtain ⟨hs, hgd, hx, es', ep', hdt, hsz, ent⟩ := Inv.frzN I hd
    obtain ⟨rfl, rfl⟩ := dict_ep hod hdt
    obtain ⟨y, hy⟩ : ∃ p, us[i]? = some p := ⟨us[i], List.getElem?_eq_getElem hi⟩
    obtain ⟨en, hen, hkey⟩ := ent i y hy
    refine next_key_item st hgd hdt hsz hen fun h' st' sb => ?_
    have I1 : Inv X pins σ H { s with heap := h' } := I.turned (t' := s.toks) (fun b ob hb e => (sb.2 b hb).trans e) f0 f1 f3 f4 f5
    obtain ⟨oi, e, c, dd⟩ := id st'
    exact ⟨en.key, rfl, go_of (s := { s with heap := h' }) e c dd (by decide) ⟨.ref y.2.1, H, I1, hkey, ⟨rfl, y, hy, rfl⟩, st', fun b hb => (hf b hb).1⟩⟩
  done := by
    intro X hP hw hK hc i pins s σ H E I hf st hg
    subst hP hw hK
    obtain ⟨hd, hi⟩ := hg
    obtain ⟨f0, f1, f2, f3, f4, f5⟩ := hf it (by simp)
    obtain ⟨hs, hgd, hx, es', ep', hdt, hsz, ent⟩ := Inv.frzN I hd
    obtain ⟨rfl, rfl⟩ := dict_ep hod hdt
    exact next_key_end (I.ok.hd hc) st hgd hdt hsz hi fun h' eb => ⟨rfl, I.turned (t' := s.toks) (fun b ob hb e => eb b ob hb e) f0 f1 f3 f4 f5⟩
  self := fun A i s Q E st h => by
    refine wpAny_pyIter_slot st.typeIs PySem.F.slot_dict_keyiterator_iter (wpAny_call_entry PySem.F.slot_dict_keyiterator_iter st.typeIs PySem.F.entry_dict_keyiterator_iter ?_ (PySem.F.args_dict_keyiterator_iter_1 _))
    show wpAny _ _ (ret (.ref it)) _ _ s
    exact wpAny_pure ⟨_, rfl, "dict_keyiterator", _, st.typeIs, PySem.F.slot_dict_keyiterator_next.lookup, h⟩
def iKeysN (w : World) (td : TE) : TI := fun σ H R => td σ H fun x H1 => ∃ d o us, x = .ref d ∧ H1 d = some (.frz o (.ext (DFx w d us))) ∧ R (Itn w d o us) H1
theorem pi_keysN {X : Cx} {tg e : Expr} {td : TE} {w : World} (he : PE X e td) : PI X tg e (iKeysN w td) := by
  refine ⟨fun pins s σ H R I h => ?_⟩
  refine thn (he.run pins s σ H _ I h) fun u s1 ⟨x, H1, I1, rx, d, o, us, ex, hd, q⟩ => ?_
  subst ex
  obtain rfl : u = Value.ref d := rx
  obtain ⟨hs, hgd, hx, es, ep, hdt, hsz, ent⟩ := Inv.frzN I1 hd
  refine iter_keys hs hgd hx hdt (pi_one (tk := s1.toks) I1 _ (turn_keysN _ hdt) ⟨_, Heap.get?_push_size _ rfl, rfl, ?_⟩ q)
  rw [hsz] <;> rfl
section
variable {G : Gx} {s s' : Sx}
/-- from state to state, but what is locked over an ext may be opened -/
structure TG (s s' : Sx) : Prop where
  al : ∀ n p, s.am n = some p → s'.am n = some p
  keep : ∀ p o, s.H p = some o → ¬ s.L p → (∀ od φ, o ≠ .frz od (.ext φ)) → s'.H p = some o ∧ ¬ s'.L p
theorem TG.rd (t : TG s s') {p : Addr} {u : HO} (h : Rd s.H p u) (k : ¬ s.L p) (hu : ∀ od φ, u ≠ .frz od (.ext φ)) (he : ∀ φ, u ≠ .ext φ) : Rd s'.H p u ∧ ¬ s'.L p := by
  rcases h with h | ⟨o, h⟩
  · obtain ⟨a, b⟩ := t.keep p _ h k hu
    exact ⟨.inl a, b⟩
  · obtain ⟨a, b⟩ := t.keep p _ h k (fun od φ e => by injection e with e1 e2; exact he φ e2)
    exact ⟨.inr ⟨o, a⟩, b⟩
mutual
theorem RV.monoG (t : TG s s') : ∀ {d : D} {v : V}, s.RV G d v → s'.RV G d v
  | .non, _, h => h
  | .bl _, _, h => h
  | .int _, _, h => h
  | .str _, _, h => h
  | .tup xs, v, ⟨p, us, e, r, k, q⟩ => let ⟨r', k'⟩ := t.rd r k (fun _ _ z => by cases z) (fun _ z => by cases z); ⟨p, us, e, r', k', RVs.monoG t q⟩
  | .lst xs, v, ⟨p, us, e, r, k, q⟩ => let ⟨r', k'⟩ := t.rd r k (fun _ _ z => by cases z) (fun _ z => by cases z); ⟨p, us, e, r', k', RVs.monoG t q⟩
  | .scr xs, v, ⟨p, us, e, r, q⟩ => ⟨p, us, e, r.imp (fun ⟨r, k⟩ => t.rd r k (fun _ _ z => by cases z) (fun _ z => by cases z)) id, RVs.monoG t q⟩
  | .ref n, v, ⟨p, e, a⟩ => ⟨p, e, t.al n p a⟩
  | .ins c fs, v, ⟨p, dx, us, e, r, k, q⟩ => let ⟨r', k'⟩ := t.keep p _ r k (fun _ _ z => by cases z); ⟨p, dx, us, e, r', k', RFs.monoG t q⟩
theorem RVs.monoG (t : TG s s') : ∀ {d : List D} {v : List V}, s.RVs G d v → s'.RVs G d v
  | [], _, h => h
  | _ :: _, _, ⟨u, r, e, a, b⟩ => ⟨u, r, e, RV.monoG t a, RVs.monoG t b⟩
theorem RFs.monoG (t : TG s s') : ∀ {d : List (Nat × D)} {v : List (Str × V)}, s.RFs G d v → s'.RFs G d v
  | [], _, h => h
  | (_, _) :: _, _, ⟨u, r, e, a, b⟩ => ⟨u, r, e, RV.monoG t a, RFs.monoG t b⟩
end
theorem RKs.monoG (t : TG s s') : ∀ {d : List (D × D)} {v : List (Key × V)}, s.RKs G d v → s'.RKs G d v
  | [], _, h => h
  | (_, _) :: _, _, ⟨kk, u, r, e, k, a, b⟩ => ⟨kk, u, r, e, k, RV.monoG t a, RKs.monoG t b⟩
theorem RTs.monoG (t : TG s s') : ∀ {d : List (D × D)} {v : List (NestedKey × Addr × Value)}, s.RTs G d v → s'.RTs G d v
  | [], _, h => h
  | (_, _) :: _, _, ⟨nk, p, u, r, e, k, kd, a, ⟨v, b1, b2⟩, c⟩ => ⟨nk, p, u, r, e, k, kd, RV.monoG t a, ⟨v, RV.monoG t b1, b2⟩, RTs.monoG t c⟩
theorem NR.monoG (t : TG s s') {nd : Node} {p : Addr} (e : s'.H p = s.H p) (h : NR G s.am s.L s.H nd p) : NR G s'.am s'.L s'.H nd p := by
  cases nd with
  | lst xs => obtain ⟨us, a, b⟩ := h; exact ⟨us, e.trans a, RVs.monoG t b⟩
  | ins c fs => obtain ⟨dx, us, a, b⟩ := h; exact ⟨dx, us, e.trans a, RFs.monoG t b⟩
  | dic _ => obtain ⟨us, a, b⟩ := h; exact ⟨us, e.trans a, RKs.monoG t b⟩
  | dead => trivial
  | dit _ => obtain ⟨us, a, b, c⟩ := h; exact ⟨us, e.trans a, RTs.monoG t b, c⟩
theorem EV.monoG {ρ : En} {σ : St} (t : TG s s') (e : EV G s ρ σ) (hx : G.exs = none) : EV G s' ρ σ :=
  ⟨e.len, fun i d h => let ⟨v, a, b⟩ := e.at_ i d h; ⟨v, a, RV.monoG t b⟩, fun i v w h => by rw [hx] at h; cases h⟩
/-- the dict is locked, its node shut -/
def Sx.shut (s : Sx) (n : Nat) (p : Addr) (o : HO) : Sx := ⟨s.am, s.h.set n .dead, upd s.H p o, s.ex⟩
theorem shut_L {n : Nat} {p : Addr} {o : HO} {q : Addr} (h : (s.shut n p o).L q) : s.L q ∧ (s.ex q ∨ ∃ m, m ≠ n ∧ s.am m = some q) := kill_L (s := s) (n := n) h
theorem TR.shut (R : REL G s) {n : Nat} {p : Addr} {old : Node} {o : HO} (hn : s.h[n]? = some old) (hl : old ≠ .dead) (hp : s.am n = some p) : TR s (s.shut n p o) :=
  ⟨fun _ _ h => h, fun q u h k => ⟨(upd_ne fun z => k (by rw [z]; exact .inr ⟨n, old, hp, hn, hl⟩)).trans h, fun z => k (shut_L z).1⟩, fun q h => ⟨h, upd_ne fun e => R.exN n p hp (by rw [← e]; exact h)⟩⟩
theorem REL.shut (R : REL G s) {n : Nat} {p : Addr} {old : Node} {o : HO} (hn : s.h[n]? = some old) (hl : old ≠ .dead) (hp : s.am n = some p) : REL G (s.shut n p o) := by
  have t : TR s (s.shut n p o) := TR.shut R hn hl hp
  refine ⟨fun m hm => R.dom m (by simpa [Sx.shut] using hm), fun m q a => by simpa [Sx.shut] using R.cod m q a, R.inj, fun m d q e a => ?_, fun m q a => ?_, fun q h => ?_, R.exN⟩
  · have a' : s.am m = some q := a
    have e' : (s.h.set n .dead)[m]? = some d := e
    by_cases hm : n = m
    · subst hm
      have hlt : n < s.h.length := (List.getElem?_eq_some_iff.mp hn).1
      rw [List.getElem?_set_self hlt] at e'
      cases e'
      trivial
    · rw [List.getElem?_set_ne hm] at e'
      exact (R.node m d q e' a').mono t (upd_ne fun z => hm (R.inj n m p hp (by rw [← z]; exact a')))
  · have a' : s.am m = some q := a
    by_cases hm : n = m
    · subst hm
      rw [hp] at a'; cases a'
      exact ⟨o, upd_same⟩
    · obtain ⟨u, e⟩ := R.there m q a'
      exact ⟨u, (upd_ne fun z => hm (R.inj n m p hp (by rw [← z]; exact a'))).trans e⟩
  · obtain ⟨u, e⟩ := R.exT q h
    exact ⟨u, (upd_ne fun e => R.exN n p hp (by rw [← e]; exact h)).trans e⟩
/-- .. and opened again -/
def Sx.open_ (s : Sx) (n : Nat) (p : Addr) (nd : Node) (o : HO) : Sx := ⟨s.am, s.h.set n nd, upd s.H p o, s.ex⟩
theorem open_L {n : Nat} {p : Addr} {nd : Node} {o : HO} {q : Addr} (hp : s.am n = some p) (h : (s.open_ n p nd o).L q) : q = p ∨ s.L q := by
  rcases h with h | ⟨m, d, a, e, k⟩
  · exact .inr (.inl h)
  have a' : s.am m = some q := a
  have e' : (s.h.set n nd)[m]? = some d := e
  by_cases hm : n = m
  · subst hm
    rw [hp] at a'; cases a'
    exact .inl rfl
  · rw [List.getElem?_set_ne hm] at e'
    exact .inr (.inr ⟨m, d, a', e', k⟩)
theorem TG.open_ {n : Nat} {p : Addr} {nd : Node} {o : HO} {od : Obj} {φ : Heap → Prop} (hp : s.am n = some p) (hl : s.H p = some (.frz od (.ext φ))) : TG s (s.open_ n p nd o) :=
  ⟨fun _ _ h => h, fun q u h k hu => by
    have hne : q ≠ p := fun z => by
      rw [z, hl] at h
      cases h
      exact hu od φ rfl
    exact ⟨(upd_ne hne).trans h, fun z => (open_L hp z).elim hne k⟩⟩
theorem REL.open_ (R : REL G s) {n : Nat} {p : Addr} {nd : Node} {o : HO} {od : Obj} {φ : Heap → Prop} (hn : n < s.h.length) (hp : s.am n = some p) (hl : s.H p = some (.frz od (.ext φ)))
    (h : NR G (s.open_ n p nd o).am (s.open_ n p nd o).L (s.open_ n p nd o).H nd p) : REL G (s.open_ n p nd o) := by
  have t : TG s (s.open_ n p nd o) := TG.open_ hp hl
  refine ⟨fun m hm => R.dom m (by simpa [Sx.open_] using hm), fun m q a => by simpa [Sx.open_] using R.cod m q a, R.inj, fun m d q e a => ?_, fun m q a => ?_, fun q h => ?_, R.exN⟩
  · have a' : s.am m = some q := a
    have e' : (s.h.set n nd)[m]? = some d := e
    by_cases hm : n = m
    · subst hm
      rw [hp] at a'; cases a'
      rw [List.getElem?_set_self hn] at e'
      cases e'
      exact h
    · rw [List.getElem?_set_ne hm] at e'
      exact (R.node m d q e' a').monoG t (upd_ne fun z => hm (R.inj n m p hp (by rw [← z]; exact a')))
  · have a' : s.am m = some q := a
    by_cases hm : n = m
    · subst hm
      rw [hp] at a'; cases a'
      exact ⟨o, upd_same⟩
    · obtain ⟨u, e⟩ := R.there m q a'
      exact ⟨u, (upd_ne fun z => hm (R.inj n m p hp (by rw [← z]; exact a'))).trans e⟩
  · obtain ⟨u, e⟩ := R.exT q h
    exact ⟨u, (upd_ne fun e => R.exN n p hp (by rw [← e]; exact h)).trans e⟩
theorem RTs.get : ∀ {kvs : List (D × D)} {us : List (NestedKey × Addr × Value)} {i : Nat} {x : D}, s.RTs G kvs us → (kvs.map (·.1))[i]? = some x → ∃ y, us[i]? = some y ∧ s.RV G x (.ref y.2.1)
  | [], _, _, _, _, e => by simp at e
  | (k, v) :: kvs, _, 0, x, ⟨nk, p, u, r, e, hk, kd, a, _, c⟩, q => by
    subst e
    cases q
    exact ⟨_, rfl, a⟩
  | (k, v) :: kvs, _, i + 1, x, ⟨nk, p, u, r, e, hk, kd, a, _, c⟩, q => by
    subst e
    obtain ⟨y, h1, h2⟩ := RTs.get (i := i) c (by simpa using q)
    exact ⟨y, by simpa using h1, h2⟩
end
section
variable {G : Gx} {W : WX} {X : Cx} [KEq G X.K] [WEq G X.w]
theorem snd_forD {tg : Expr} {y : Str} {yp : Pos} {body : List Stmt} {pos : Pos} {p : Pt} {i : Nat} {mb : En → Hm → SRes} (hxs : G.exs = none) (hx : ∀ i ∈ p.slots, G.off i) (hp : PassesOwn (model X.prog X.w) X.A X.env X.xe) (hc : X.calm = true) (hi : PE X (.Name y yp) (tVar i)) (hg : PG X tg (gP X.K p)) (hb : PSs X body (rdS G W mb))
    (hs : ∀ x, foldedSetIterable (.Name y yp) X.env x = pure x) :
    PS X (.For tg (.Name y yp) body [] pos) (rdS G W fun ρ h => forDD ρ i (bodyP p mb) h) :=
  PS.imp (ps_lock (ps_for hp hc (pi_keysN (w := G.w) hi) hg hb hs)) fun Dd σ H ⟨s, ρ, e, R, ev, p0⟩ => by
    subst e
    unfold forDD at p0
    dsimp only at p0
    split at p0
    · rename_i n hρ
      split at p0
      · rename_i kvs hn
        obtain ⟨v, hσ, a, rfl, ha⟩ := ev.at_ i _ hρ
        obtain ⟨us, hd, r, nd, hbig⟩ := R.node n _ a hn ha
        refine ⟨a, .ext (DFx G.w a us), hd, True.intro, fun od => ?_⟩
        have t1 : TR s (s.shut n a (.frz od (.ext (DFx G.w a us)))) := TR.shut R hn (by intro z; cases z) ha
        have R1 : REL G (s.shut n a (.frz od (.ext (DFx G.w a us)))) := R.shut hn (by intro z; cases z) ha
        have hlk : (s.shut n a (.frz od (.ext (DFx G.w a us)))).H a = some (.frz od (.ext (DFx G.w a us))) := upd_same
        have hnl : ¬ (s.shut n a (.frz od (.ext (DFx G.w a us)))).L a := fun z => by
          rcases (shut_L z).2 with z | ⟨m, hm, am⟩
          · exact R.exN n a ha z
          · exact hm (R.inj m n a am ha)
        have ev1 := ev.mono t1
        have r1 := RTs.mono t1 r
        have hh1 : (s.shut n a (.frz od (.ext (DFx G.w a us)))).h = s.h.set n .dead := rfl
        have ham : (s.shut n a (.frz od (.ext (DFx G.w a us)))).am n = some a := ha
        generalize hs1 : s.shut n a (.frz od (.ext (DFx G.w a us))) = s1 at *
        have hH1 : upd s.H a (.frz od (.ext (DFx G.w a us))) = s1.H := by rw [← hs1]; rfl
        rw [hH1]
        rw [← hh1] at p0
        refine ⟨.ref a, hσ, a, od, us, rfl, hlk, ?_⟩
        -- what the loop ends in
        have fin : ∀ (s' : Sx) (ρ' : En) (σ' : St), TR s1 s' → REL G s' → EV G s' ρ' σ' → PostS G W s (openD n (.dit kvs) (.ok .next ρ' s'.h)) Dd → s'.H a = some (.frz od (.ext (DFx G.w a us))) ∧ Dd.nx σ' (upd s'.H a (.ext (DFx G.w a us))) := fun s' ρ' σ' t' R' ev' q => by
          obtain ⟨k1, k2⟩ := t'.keep a _ hlk hnl
          have al' : s'.am n = some a := t'.al n a ham
          refine ⟨k1, ?_⟩
          unfold openD at q
          dsimp only at q
          split at q
          · rename_i hdd
            have hlt : n < s'.h.length := (List.getElem?_eq_some_iff.mp hdd).1
            have tg : TG s' (s'.open_ n a (.dit kvs) (.ext (DFx G.w a us))) := TG.open_ al' k1
            have R3 : REL G (s'.open_ n a (.dit kvs) (.ext (DFx G.w a us))) := R'.open_ hlt al' k1 ⟨us, upd_same, RTs.monoG tg (RTs.mono t' r1), nd, hbig⟩
            have t3 : TR s (s'.open_ n a (.dit kvs) (.ext (DFx G.w a us))) := by
              have t2 := t1.trans t'
              refine ⟨fun m q b => t2.al m q b, fun q u h k => ?_, fun q h => ?_⟩
              · have hne : q ≠ a := fun z => k (by rw [z]; exact .inr ⟨n, _, ha, hn, by intro z; cases z⟩)
                obtain ⟨e1, e2⟩ := t2.keep q u h k
                exact ⟨(upd_ne hne).trans e1, fun z => (open_L al' z).elim hne e2⟩
              · obtain ⟨e1, e2⟩ := t2.exk q h
                exact ⟨e1, (upd_ne fun e => R.exN n a ha (by rw [← e]; exact h)).trans e2⟩
            exact q (s'.open_ n a (.dit kvs) (.ext (DFx G.w a us))) σ' rfl t3 R3 (EV.monoG tg ev' hxs)
          · exact q.elim
        let items := kvs.map (·.1)
        let Iv : Nat → St → Hp → Prop := fun j σ H => ∃ (s' : Sx) (ρ' : En), s'.H = H ∧ TR s1 s' ∧ REL G s' ∧ EV G s' ρ' σ ∧ PostS G W s (openD n (.dit kvs) (loopF none (bodyP p mb) (items.drop j) ρ' s'.h)) Dd
        have hlen : items.length = us.length := by show (kvs.map (·.1)).length = _; rw [List.length_map]; exact RTs.length r1
        refine ⟨fun j m σ H => m = items.length - j ∧ j ≤ items.length ∧ Iv j σ H, ⟨items.length, by simp, Nat.zero_le _, s1, ρ, rfl, TR.refl _, R1, ev1, p0⟩, ?_⟩
        rintro j m σ2 H2 ⟨rfl, hj, s2, ρ2, e2, t2, R2, ev2, p2⟩
        subst e2
        have hlk2 : s2.H a = some (.frz od (.ext (DFx G.w a us))) := (t2.keep a _ hlk hnl).1
        by_cases hlt : j < items.length
        · obtain ⟨x, hx1⟩ : ∃ x, items[j]? = some x := ⟨items[j], List.getElem?_eq_getElem hlt⟩
          have ed : items.drop j = x :: items.drop (j + 1) := by
            rw [List.drop_eq_getElem_cons hlt]
            rw [List.getElem?_eq_getElem hlt] at hx1
            cases hx1; rfl
          rw [ed] at p2
          unfold loopF at p2
          rw [if_pos (show guardOk none s2.h = true from rfl)] at p2
          unfold bodyP at p2
          obtain ⟨y0, hy0, ry⟩ := RTs.get (RTs.mono t2 r1) hx1
          refine .inr ⟨⟨hlk2, by rw [← hlen]; exact hlt⟩, Iv (j + 1), fun σ' H' k => ⟨items.length - (j + 1), by omega, rfl, hlt, k⟩, fun v H' ⟨e3, y1, hy1, e4⟩ => ?_⟩
          subst e3; subst e4
          rw [hy0] at hy1
          cases hy1
          cases hb1 : bindP p x ρ2 with
          | none =>
            rw [hb1] at p2
            exact p2.elim
          | some ρ3 =>
            rw [hb1] at p2
            refine gP_ok (X := X) hx ry ev2 hb1 fun σ' ev' _ => ⟨s2, ρ3, rfl, R2, ev', ?_⟩
            dsimp only at p2
            cases e4 : mb ρ3 s2.h with
            | ok f ρ4 h4 =>
              rw [e4] at p2
              cases f with
              | next => exact fun s' σ' eh2 t R' ev' => ⟨s', ρ4, rfl, t2.trans t, R', ev', by rw [eh2]; exact p2⟩
              | cont => exact fun s' σ' eh2 t R' ev' => ⟨s', ρ4, rfl, t2.trans t, R', ev', by rw [eh2]; exact p2⟩
              | brk =>
                dsimp only at p2
                intro s' σ' eh2 t R' ev'
                subst eh2
                exact fin s' ρ4 σ' (t2.trans t) R' ev' p2
              | ret d => exact p2.elim
            | exc c fs ρ2 h2 => rw [e4] at p2; exact p2.elim
            | stuck => rw [e4] at p2; exact p2.elim
        · have ei : j = items.length := by omega
          subst ei
          rw [List.drop_length] at p2
          unfold loopF at p2
          rw [if_pos (show guardOk none s2.h = true from rfl)] at p2
          exact .inl ⟨⟨hlk2, by rw [← hlen]; exact Nat.le_refl _⟩, fin s2 ρ2 σ2 t2 R2 ev2 p2⟩
      · exact p0.elim
    · exact p0.elim
theorem snd_ditn {pos : Pos} : PE X (.Dict [] [] pos) (rdE G W fun _ h => .ok (.ref h.length) (h ++ [.dit []])) := by
  have hw : G.w = X.w := WEq.eq
  have key : PE X (.Dict [] [] pos) (fun _ H Q => ∀ p, H p = none → Q (.ref p) (upd H p (.ext (DFx X.w p [])))) := ⟨fun pins s σ H Q I h => by
    refine wpAny_Dict_empty ⟨.ref s.heap.objs.size, _, I.laid (a := s.heap.objs.size) (o := .ext (DFx X.w s.heap.objs.size [])) (t' := s.toks) (fun _ _ q => Heap.get?_push_of_some _ q) (Nat.le_refl _) ?_, rfl, h _ (I.hok.fresh (Nat.le_refl _))⟩
    exact ext_ofw (beq_eq_false_iff_ne.mpr (Ne.symm (Nat.ne_of_lt I.big))) (Heap.DictOfH.new s.heap)⟩
  refine PE.imp key fun σ H Q ⟨s, ρ, e, R, ev, p⟩ q hq => ?_
  subst e
  rw [← hw]
  have t : TR s (s.push q (.dit []) (.ext (DFx G.w q []))) := TR.push R hq
  exact p.at (s.push q (.dit []) (.ext (DFx G.w q []))) rfl t (R.push hq ⟨[], upd_same, rfl, List.nodup_nil, Nat.zero_le _⟩) ⟨q, rfl, if_pos rfl⟩
end
end L2.Mini
set_option Elab.async false
set_option linter.all false
set_option maxRecDepth 100000
set_option maxHeartbeats 4000000
/-! Mini: the set of a list of ints, sorted. -/
namespace L2.Mini
open PySem PySem.Spec PyProof.Rows
/-- a set that was just made -/
abbrev newSet (w : World) : Obj := { cls := .type "set", dict := none, data := .set #[] 0 (.fresh 0 0 (!w.params.followText "set-order")) }
section
variable {P : Program} {w : World} {A : Around} {E : Value → Shared → Prop} {s : Shared}
theorem set_list_ints {l : Addr} {items : Array Value} (ns : List Int) {Q : Value → Shared → Prop} (cold : A.handled = none) (isl : s.heap.IsList l items) (are : IntsAre items.toList ns) (few : ns.length + 1 < scanBound)
    (fin : ∀ (h2 : Heap) (t c : Nat), SetR w h2 s.heap.objs.size (fun j => decide (j ∈ ns)) c → c ≤ ns.length → (∀ b o, s.heap.get? b = some o → h2.get? b = some o) → Q (.ref s.heap.objs.size) { s with heap := h2, toks := t }) :
    wpAny (model P w) A (call (.type "set") [.ref l]) Q E s := by
  have size_is : items.size = ns.length := by
    have q := are.length
    simpa using q
  obtain ⟨c0, tl0, mro0⟩ := F.called_set.mro
  have made0 := F.called_set.made
  have sub0 := F.called_set.sub
  have type0 := F.called_set.notType
  have create0 := F.called_set.canCreate
  have tcall0 := F.typeCall_set_1 (.ref l)
  refine wpAny_call (codeAny_of_tree ?_)
  show wpAny _ _ (callAny (.type "set") _) _ _ _
  refine wpAny_pure ⟨Code.quiet_builtin _ (by decide +kernel), ?_⟩
  refine codeAny_builtin F.entry_type_call ?_
  rw [Around.under_plain (weight_type_call_type "set" [.ref l] []) rfl]
  repeat any_goals first | assumption | wp_step
  refine codeAny_mono (code_set_led1 (.ref l) (E := E) (Q₁ := fun ob s2 => ob = .ref s.heap.objs.size ∧ s2 = { s with heap := s.heap.push (newSet w) }) ⟨rfl, rfl⟩) fun r1 s1 k1 => ?_
  cases r1 with
  | error e => exact k1
  | ok f1 =>
    cases f1 with
    | ret ob =>
      obtain ⟨rfl, rfl⟩ := k1
      have got : (s.heap.push (newSet w)).get? s.heap.objs.size = some (newSet w) := Heap.get?_push_size _ rfl
      have isT : Shared.TypeIs { s with heap := s.heap.push (newSet w) } (.ref s.heap.objs.size) "set" := ⟨_, got, rfl⟩
      have look0 := F.called_set.init.lookup
      have bind0 := F.called_set.init.bind (.ref s.heap.objs.size)
      repeat any_goals first | assumption | wp_step
      refine codeAny_mono (codeAny_call_builtin (R := wants (fun r s2 => r = .none ∧ ∃ h2 t c, s2 = { s with heap := h2, toks := t } ∧ SetR w h2 s.heap.objs.size (fun j => decide (j ∈ ns)) c ∧ c ≤ ns.length ∧
          ∀ b o, s.heap.get? b = some o → h2.get? b = some o) E) F.called_set.init.plain F.entry_set_init (check_set_init_1 isT ?_)) fun r2 s2 k2 => ?_
      · obtain ⟨⟨oc, od, odt, osl⟩, hol, hcl, nl, hdl⟩ := isl
        simp only at hcl hdl
        subst hcl
        subst hdl
        have hol1 : (s.heap.push (newSet w)).get? l = some { cls := .type "list", dict := od, data := .seq items nl, slots := osl } := Heap.get?_push_of_some _ hol
        have sl1 := F.sub_list_set
        have sl2 := F.sub_list_frozenset
        have ne1 : (Value.type "list" == Value.type "dict") = false := by decide
        have isl1 : (s.heap.push (newSet w)).IsList l items := ⟨_, hol1, rfl, nl, rfl⟩
        unfold Builtin.«set.__init__» noKeywords Builtin.Frozenset.updateFrom
        generalize hgen : pyIter = It0
        wp_walk
        subst hgen
        refine wpAny_pyIter_list isl1 (wpAny_bind (wpAny_runValue ?_))
        have lt0 : l < s.heap.objs.size := Heap.lt_size hol
        have cold3 : A.in1.in1.in1.handled = none := by simp [cold]
        have ne2 : l ≠ (s.heap.push (newSet w)).objs.size := by
          rw [Heap.size_push]
          exact fun z => absurd (z ▸ Nat.lt_succ_of_lt lt0) (Nat.lt_irrefl _)
        have out : s.heap.objs.size ∉ [(s.heap.push (newSet w)).objs.size, l] := by
          rw [Heap.size_push]
          intro z
          rcases List.mem_cons.mp z with z | z
          · exact Nat.ne_of_lt (Nat.lt_succ_self _) z
          · exact Nat.ne_of_gt lt0 (List.mem_singleton.mp z)
        have vals : ∀ (i : Nat) (v : Value), items[i]? = some v → ∃ k t, ns[i]? = some k ∧ v = .int k t := fun i v hv => by
          have hi : i < ns.length := by rw [← size_is]; exact (Array.getElem?_eq_some_iff.mp hv).1
          obtain ⟨t, e⟩ := IntsAre.int_at are i v (by simpa using hv)
          exact ⟨ns[i], t, List.getElem?_eq_getElem hi, by rw [e, List.getD_eq_getElem?_getD, List.getElem?_eq_getElem hi]; rfl⟩
        refine set_update_ints ((Walks.list cold3 _ l ne2 items).toS) s.heap.objs.size out ns size_is few vals (items.size - 0) 0 _ (by omega) (Nat.zero_le _) ⟨⟨_, Heap.get?_push_size _ rfl, rfl, rfl⟩, isl1.push _⟩ ?g1 ?g2
        case g1 => exact ⟨0, Nat.le_refl 0, setR_new_at (Heap.get?_push_of_some _ got)⟩
        case g2 =>
          intro s3 c3 mv le3 R3
          obtain ⟨h3, g3, d3, t3, o3⟩ := s3
          obtain rfl : g3 = s.gens := mv.gens
          obtain rfl : d3 = s.drawn := mv.drawn
          obtain rfl : o3 = s.os := mv.os
          show wpAny _ _ _ _ _ _
          refine wpAny_pure ?_
          show wpAny _ _ (ret Value.none) _ _ _
          refine wpAny_pure ⟨rfl, h3, t3, c3, rfl, R3, by rw [← size_is]; exact le3, fun b o e => ?_⟩
          have lb : b < s.heap.objs.size := Heap.lt_size e
          refine mv.heap b o ?_ (Heap.get?_push_of_some _ (Heap.get?_push_of_some _ e))
          rw [Heap.size_push]
          intro z
          rcases List.mem_cons.mp z with z | z
          · exact Nat.ne_of_lt lb z
          · exact Nat.ne_of_lt (Nat.lt_succ_of_lt lb) (List.mem_singleton.mp z)
      · cases r2 with
        | error e => exact k2
        | ok f2 =>
          cases f2 with
          | ret r =>
            obtain ⟨rfl, h2, t, c, rfl, R2, le2, kp⟩ := k2
            repeat any_goals first | assumption | wp_step
            exact fin _ _ _ R2 le2 kp
          | _ => exact k2.elim
    | _ => exact k1.elim
end
/-! ### a strictly rising list is told by its members -/
theorem insU_mem (x k : Int) : ∀ l : List Int, k ∈ insU x l ↔ k = x ∨ k ∈ l
  | [] => by simp [insU]
  | y :: r => by
    unfold insU
    split
    · simp
    · split
      · rename_i _ e
        subst e
        simp
      · rw [List.mem_cons, insU_mem x k r, List.mem_cons]
        constructor
        · rintro (h | h | h)
          · exact .inr (.inl h)
          · exact .inl h
          · exact .inr (.inr h)
        · rintro (h | h | h)
          · exact .inr (.inl h)
          · exact .inl h
          · exact .inr (.inr h)
theorem insU_up (x : Int) : ∀ l : List Int, l.Pairwise (· < ·) → (insU x l).Pairwise (· < ·)
  | [], _ => by simp [insU]
  | y :: r, h => by
    obtain ⟨h1, h2⟩ := List.pairwise_cons.mp h
    unfold insU
    split
    · rename_i hxy
      refine List.pairwise_cons.mpr ⟨fun z hz => ?_, h⟩
      rcases List.mem_cons.mp hz with e | hz
      · rw [e]; exact hxy
      · have := h1 z hz
        omega
    · split
      · exact h
      · rename_i n1 n2
        refine List.pairwise_cons.mpr ⟨fun z hz => ?_, insU_up x r h2⟩
        rcases (insU_mem x z r).mp hz with e | hz
        · omega
        · exact h1 z hz
theorem sortU_mem (k : Int) : ∀ l : List Int, k ∈ sortU l ↔ k ∈ l
  | [] => by simp [sortU]
  | x :: r => by
    show k ∈ insU x (sortU r) ↔ _
    rw [insU_mem, sortU_mem k r, List.mem_cons]
theorem sortU_up : ∀ l : List Int, (sortU l).Pairwise (· < ·)
  | [] => List.Pairwise.nil
  | x :: r => insU_up x _ (sortU_up r)
theorem up_unique : ∀ {a b : List Int}, a.Pairwise (· < ·) → b.Pairwise (· < ·) → (∀ k, k ∈ a ↔ k ∈ b) → a = b
  | [], [], _, _, _ => rfl
  | [], y :: _, _, _, h => absurd ((h y).mpr (List.mem_cons_self ..)) (by simp)
  | x :: _, [], _, _, h => absurd ((h x).mp (List.mem_cons_self ..)) (by simp)
  | x :: r, y :: t, ha, hb, h => by
    obtain ⟨a1, a2⟩ := List.pairwise_cons.mp ha
    obtain ⟨b1, b2⟩ := List.pairwise_cons.mp hb
    have e : x = y := by
      rcases List.mem_cons.mp ((h x).mp (List.mem_cons_self ..)) with e | h1
      · exact e
      · rcases List.mem_cons.mp ((h y).mpr (List.mem_cons_self ..)) with e | h2
        · exact e.symm
        · have := a1 y h2
          have := b1 x h1
          omega
    subst e
    rw [up_unique a2 b2 fun k => ?_]
    constructor
    · intro hk
      rcases List.mem_cons.mp ((h k).mp (List.mem_cons_of_mem _ hk)) with e | h1
      · have := a1 k hk
        omega
      · exact h1
    · intro hk
      rcases List.mem_cons.mp ((h k).mpr (List.mem_cons_of_mem _ hk)) with e | h1
      · have := b1 k hk
        omega
      · exact h1
theorem nd_le {α : Type} [DecidableEq α] : ∀ (l1 l2 : List α), l1.Nodup → (∀ x ∈ l1, x ∈ l2) → l1.length ≤ l2.length
  | [], _, _, _ => Nat.zero_le _
  | x :: r, l2, nd, h => by
    obtain ⟨n1, n2⟩ := List.nodup_cons.mp nd
    have hx := h x (List.mem_cons_self ..)
    have := nd_le r (l2.erase x) n2 fun y hy => (List.mem_erase_of_ne (fun e : y = x => n1 (by rw [← e]; exact hy))).mpr (h y (List.mem_cons_of_mem _ hy))
    rw [List.length_erase_of_mem hx] at this
    have := List.length_pos_of_mem hx
    simp only [List.length_cons]
    omega
/-- how many stand in the set -/
theorem setR_count {w : World} {h : Heap} {a : Addr} {ns : List Int} {c : Nat} (R : SetR w h a (fun j => decide (j ∈ ns)) c) : c = (sortU ns).length := by
  obtain ⟨o, es, ep, t, _, _, _, _, nd, mem, _, _, e, _⟩ := R
  have hl : (es.toList.map keyOf).length = c := by rw [List.length_map, Array.length_toList, e]
  have nd2 : (sortU ns).Nodup := (sortU_up ns).imp fun h => Int.ne_of_lt h
  have h1 := nd_le _ (sortU ns) nd fun k hk => (sortU_mem k ns).mpr (by simpa using (mem k).mpr hk)
  have h2 := nd_le _ (es.toList.map keyOf) nd2 fun k hk => (mem k).mp (by simpa using (sortU_mem k ns).mp hk)
  omega
section
variable {G : Gx} {W : WX} {X : Cx} [KEq G X.K] [WEq G X.w]
/-- set(x), x a list of ints -/
def rSetL1 (X : Cx) : List V → Hp → VK → Prop := fun xs H Q => ∃ (p : Addr) (is : List Int), xs = [.ref p] ∧ SqL X.K H p (is.map V.int) ∧ is.length < 4000 ∧ ∀ (q : Addr) (c : Nat), H q = none → c = (sortU is).length → Q (.ref q) (upd H q (SetO X.w q (fun j => decide (j ∈ is)) c))
theorem cr_setL1 (hc : X.calm = true) : CallR X (.type "set") (rSetL1 X) := by
  intro pins st σ H xs us Q I r h
  obtain ⟨p, is, rfl, hq, hl, k⟩ := h
  obtain ⟨its, rv, pl, hz⟩ := I.list hq
  rw [Vals.ref1 r]
  refine set_list_ints is (I.ok.hd hc) pl.isList (by simpa using ints_of_vals rv) (by unfold scanBound; omega) fun h2 t c R le kp => ?_
  have fr := I.hok.fresh (Nat.le_refl st.heap.objs.size)
  exact ⟨.ref _, _, I.laid (t' := t) kp (Nat.le_refl _) (setO_new R), rfl, k _ c fr (setR_count R)⟩
theorem snd_sset {mk : Bool} {a : Expr} {p p2 pos pos2 : Pos} (hc : X.calm = true) (hg : Gl X "sorted") (hm : X.mg "sorted" = none) (hg2 : Gl X "set") (hm2 : X.mg "set" = none) (hn : noStar1 a = true) {ma : En → Hm → Res D} (ha : PE X a (rdE G W ma)) :
    PE X (.Call (.Name "sorted" p) [.Call (.Name "set" p2) [a] [] pos2] [] pos) (rdE G W fun ρ h => (ma ρ h).bind fun x h => sortedSetD mk x h) := by
  have hs : PE X (.Call (.Name "set" p2) [a] [] pos2) _ := pe_callTy (cr_setL1 hc) hg2 hm2 (by decide +kernel) (pa_cons ha pa_nil (star_cons hn _ _)) (by decide) (by decide) (star_cons hn _ _) (back_any (by rfl))
  refine PE.imp (pe_callB (cr_sortedSet hc) hg hm (by decide +kernel) (pa_cons hs pa_nil rfl) (by decide) (by decide) rfl (back_any (by rfl))) fun σ H Q ⟨s, ρ, e, R, ev, p0⟩ => ?_
  subst e
  refine ⟨s, ρ, rfl, R, ev, (Post.bind p0).imp fun v H1 ⟨s1, d, e1, t1, R1, q1, p1⟩ => ?_⟩
  subst e1
  replace p1 : Post G W σ (rV G) s1 (sortedSetD mk d s1.h) Q := p1
  unfold sortedSetD at p1
  split at p1
  · rename_i is hi
    split at p1
    · rename_i hl
      obtain ⟨hl, hl2⟩ := hl
      obtain ⟨p', rfl, h⟩ := intsD_rd (X := X) R1 q1 hi
      refine ⟨p', is, rfl, h, hl, fun q c hq hcl => ?_⟩
      refine ⟨q, fun j => decide (j ∈ is), c, rfl, upd_same, by omega, fun ns r hup hmem hlen hr => ?_⟩
      have t2 : TR s1 (s1.lay q (SetO X.w q (fun j => decide (j ∈ is)) c)) := TR.lay R1 hq
      have R2 : REL G (s1.lay q (SetO X.w q (fun j => decide (j ∈ is)) c)) := R1.lay hq
      have en : ns = sortU is := up_unique hup (sortU_up is) fun k => by
        rw [hmem k, sortU_mem]
        simp
      rw [en]
      exact lay_lst (s := s1.lay q _) R2 hr (ints_rv _) (Post.shift t2 p1)
    · exact p1.elim
  · exact p1.elim
end
end L2.Mini
set_option Elab.async false
set_option linter.all false
set_option maxRecDepth 100000
set_option maxHeartbeats 1000000
/-! Mini: exceptions. -/
namespace L2.Mini
open PySem PySem.Spec PyProof.Rows

section
variable {G : Gx} {W : WX} {X : Cx} [KEq G X.K] [WEq G X.w]
/-- raise C('text') -/
theorem snd_raise {c : Nat} {m : Str} {j : Nat} {p p2 pos pos' : Pos} (xc : ExcF X.K X.mg (G.ca c) (G.cn c)) (xb : ExcB X.K (G.ca c)) (hc : X.calm = true) (tk : Takes X W) (hg : Gl X (G.cn c)) (hd : (G.cn c == ("__debug__" : Str)) = false) :
    PS X (.Raise (some (.Call (.Name (G.cn c) p) [.Constant (.str m) j p2] [] pos)) none pos') (rdS G W fun ρ h => .exc c [] ρ h) := by
  obtain ⟨bmB, B, newId, initId, F, q⟩ := xb
  refine PS.imp (ps_raise hc tk (pmk_own F q xc.gC xc.kC (raises_own xc.sb xc.ty) hg hd)) fun D σ H ⟨s, ρ, e, R, ev, p0⟩ => ?_
  subst e
  exact p0 s σ none rfl (TR.refl _) R ev (.inl ⟨rfl, rfl⟩)
theorem EV.enter {s : Sx} {ρ : En} {σ : St} {i : Nat} {v : V} {fs : List (Nat × Mini.D)} {dx : Option Addr} (hx : G.exs = none) (e : EV G s ρ σ) (hi : i < ρ.length) (xr : XR G s fs dx) : EV (G.wx (some ((i, v), fs, dx))) s (ρ.set i none) (σ.set i (some v)) := by
  have e1 := e.unset i (Gx.off_of hx i) (some v)
  refine ⟨e1.len, fun j d h => ?_, fun j u w h => ?_⟩
  · obtain ⟨u, a, b⟩ := e1.at_ j d h
    exact ⟨u, a, RV.wx b⟩
  · have h' : some ((i, v), fs, dx) = some ((j, u), w) := h
    cases h'
    exact ⟨List.getElem?_set_self (by rw [← e.len]; exact hi), xr.wx⟩
theorem EV.leave {s : Sx} {ρ : En} {σ : St} {i : Nat} {v : V} {xw : List (Nat × Mini.D) × Option Addr} (hx : G.exs = none) (e : EV (G.wx (some ((i, v), xw))) s ρ σ) : EV G s (ρ.set i none) (σ.set i none) := by
  refine ⟨by simpa using e.len, fun j d h => ?_, fun j u w h => by rw [hx] at h; cases h⟩
  by_cases hj : i = j
  · subst hj
    by_cases hl : i < ρ.length
    · rw [List.getElem?_set_self hl] at h; cases h
    · rw [List.getElem?_eq_none (by simpa using hl)] at h; cases h
  · rw [List.getElem?_set_ne hj] at h
    obtain ⟨u, a, b⟩ := e.at_ j d h
    exact ⟨u, by rw [List.getElem?_set_ne hj]; exact a, RV.wx (G := G.wx (some ((i, v), xw))) (e := G.exs) b⟩
theorem EV.enter0 {s : Sx} {ρ : En} {σ : St} (e : EV G s ρ σ) : EV (G.wx none) s ρ σ := ⟨e.len, fun j d h => let ⟨u, a, b⟩ := e.at_ j d h; ⟨u, a, RV.wx b⟩, fun j u w h => by cases h⟩
theorem EV.leave0 {s : Sx} {ρ : En} {σ : St} (hx : G.exs = none) (e : EV (G.wx none) s ρ σ) : EV G s ρ σ := ⟨e.len, fun j d h => let ⟨u, a, b⟩ := e.at_ j d h; ⟨u, a, RV.wx (G := G.wx none) (e := G.exs) b⟩, fun j u w h => by rw [hx] at h; cases h⟩
/-- what is known in a suite -/
def SuiteOk (X : Cx) (G : Gx) (C : Calls) (e : Option Nat) (mh : Nat → List (Nat × D) → En → Hm → SRes) (suite : List Stmt) : Prop :=
  ∀ (c : Nat) (fs : List (Nat × D)) (a : Addr) (oe : Obj) (dx : Option Addr) (pn : List (Addr × Obj)), C.xok c = true → Zc (.ref (G.ca c)) dx oe → (∃ vs, oe.data = .fields vs) → (fs = [] → dx = none) →
    PSs (X.suite a ((a, oe) :: pn)) suite (rdS (G.wx (e.map fun i => ((i, V.ref a), fs, dx))) WF (mh c fs))
theorem snd_try_as {C : Calls} {d i : Nat} {n : Str} {body suite : List Stmt} {b0 : Stmt} {np pos pos' : Pos} {mb : En → Hm → SRes} {mh : Nat → List (Nat × D) → En → Hm → SRes} (hxs : G.exs = none)
    (xs : ∀ c, C.xok c = true → C.xok d = true → PySem.W.exmOne X.K (.ref (G.ca c)) (.ref (G.ca d)) = some (C.sub c d)) (hs : X.stack = X.env :: X.outer) (hf : X.env.frame = some X.env.locals) (hN : X.N.Nodup) (hi : X.N[i]? = some n) (hln : X.env.kindOf n = some .local)
    (hc : Names X (G.cn d) (.ref (G.ca d))) (tk : Takes X W)
    (hb : ∀ (W : WX) (pn : List (Addr × Obj)) (xe : Value → Shared → Prop), Takes (X.tr pn xe) W → PassesOwn (model X.prog X.w) X.A X.env xe → PSs (X.tr pn xe) body (rdS G W mb))
    (hsu : SuiteOk X G C (some i) mh (b0 :: suite)) :
    PS X (.Try body [.ExceptHandler (some (.Name (G.cn d) np)) (some n) (b0 :: suite) pos'] [] [] pos) (rdS G W fun ρ h => tryS (mb ρ h) fun c fs ρ h => catchS C c fs [d] (some i) (mh c fs) (fun ρ h => .exc c fs ρ h) ρ h) := by
  refine PS.imp (ps_try_as (c := .ref (G.ca d)) (tb := fun W => rdS G W mb) (ts := fun a cls dx => fun D σ H => ∃ (c : Nat) (fs : List (Nat × Mini.D)), cls = .ref (G.ca c) ∧ C.xok c = true ∧ (fs = [] → dx = none) ∧ rdS (G.wx (some ((i, V.ref a), fs, dx))) WF (mh c fs) D σ H)
    hs hf hN hi hln hc tk hb (fun a oe cls dx pn hz hv => ⟨fun pins s σ H D I ⟨c, fs, e1, e2, e3, r⟩ => by subst e1; exact (hsu c fs a oe dx pn e2 hz hv e3).run pins s σ H D I r⟩)) fun D σ H ⟨s, ρ, e, R, ev, p0⟩ => ?_
  subst e
  refine ⟨s, ρ, rfl, R, ev, ?_⟩
  dsimp only at p0
  cases e1 : mb ρ s.h with
  | ok f ρ1 h1 => rw [e1] at p0; exact p0
  | stuck => rw [e1] at p0; exact p0
  | exc c fs ρ1 h1 =>
    rw [e1] at p0
    unfold tryS at p0
    dsimp only at p0
    intro s1 σ1 dx eh t1 R1 ev1 xr
    subst eh
    replace p0 := PostS.shift t1 p0
    unfold catchS at p0
    split at p0
    · rename_i hok
      simp only [Bool.and_eq_true, List.all_cons, List.all_nil, Bool.and_true] at hok
      refine ⟨C.sub c d, xs c hok.1 hok.2, fun hsub a ha => ?_, fun hsub => ?_⟩
      · have e5 : ([d].any fun d => C.sub c d) = true := by simp [hsub]
        rw [e5, if_pos rfl] at p0
        dsimp only at p0
        split at p0
        · rename_i hil
          have hdx : fs = [] → dx = none := fun hfs => by
            rcases xr with x | ⟨dd, us, nf, _⟩
            · exact x.2
            · exact absurd hfs nf
          refine ⟨c, fs, rfl, hok.1, hdx, s1, ρ1.set i none, rfl, R1.wx, ev1.enter hxs hil xr, ?_⟩
          cases e6 : mh c fs (ρ1.set i none) s1.h with
          | ok f ρ2 h2 =>
            rw [e6] at p0
            intro s2 σ2 eh2 t2 R2 ev2
            have q := p0 s2 (σ2.set i none) eh2 t2 (R2.wx (e := G.exs)) (ev2.leave hxs)
            cases f with
            | next => exact q
            | brk => exact q
            | cont => exact q
            | ret dd => exact fun v rv => q v (RV.wx (G := G.wx (some ((i, V.ref a), fs, dx))) (e := G.exs) rv)
          | exc c2 fs2 ρ2 h2 => rw [e6] at p0; exact p0.elim
          | stuck => rw [e6] at p0; exact p0.elim
        · exact p0.elim
      · have e5 : ([d].any fun d => C.sub c d) = false := by simp [hsub]
        rw [e5, if_neg Bool.false_ne_true] at p0
        exact p0 s1 σ1 dx rfl (TR.refl _) R1 ev1 xr
    · exact p0.elim
theorem snd_try_only {C : Calls} {d : Nat} {body suite : List Stmt} {b0 : Stmt} {np pos pos' : Pos} {mb : En → Hm → SRes} {mh : Nat → List (Nat × D) → En → Hm → SRes} (hxs : G.exs = none)
    (xs : ∀ c, C.xok c = true → C.xok d = true → PySem.W.exmOne X.K (.ref (G.ca c)) (.ref (G.ca d)) = some (C.sub c d)) (hs : X.stack = X.env :: X.outer) (hf : X.env.frame = some X.env.locals)
    (hc : Names X (G.cn d) (.ref (G.ca d))) (tk : Takes X W)
    (hb : ∀ (W : WX) (pn : List (Addr × Obj)) (xe : Value → Shared → Prop), Takes (X.tr pn xe) W → PassesOwn (model X.prog X.w) X.A X.env xe → PSs (X.tr pn xe) body (rdS G W mb))
    (hsu : SuiteOk X G C none mh (b0 :: suite)) :
    PS X (.Try body [.ExceptHandler (some (.Name (G.cn d) np)) none (b0 :: suite) pos'] [] [] pos) (rdS G W fun ρ h => tryS (mb ρ h) fun c fs ρ h => catchS C c fs [d] none (mh c fs) (fun ρ h => .exc c fs ρ h) ρ h) := by
  refine PS.imp (ps_try_only (c := .ref (G.ca d)) (tb := fun W => rdS G W mb) (ts := fun a cls dx => fun D σ H => ∃ (c : Nat) (fs : List (Nat × Mini.D)), cls = .ref (G.ca c) ∧ C.xok c = true ∧ (fs = [] → dx = none) ∧ rdS (G.wx none) WF (mh c fs) D σ H)
    hs hf hc tk hb (fun a oe cls dx pn hz hv => ⟨fun pins s σ H D I ⟨c, fs, e1, e2, e3, r⟩ => by subst e1; exact (hsu c fs a oe dx pn e2 hz hv e3).run pins s σ H D I r⟩)) fun D σ H ⟨s, ρ, e, R, ev, p0⟩ => ?_
  subst e
  refine ⟨s, ρ, rfl, R, ev, ?_⟩
  dsimp only at p0
  cases e1 : mb ρ s.h with
  | ok f ρ1 h1 => rw [e1] at p0; exact p0
  | stuck => rw [e1] at p0; exact p0
  | exc c fs ρ1 h1 =>
    rw [e1] at p0
    unfold tryS at p0
    dsimp only at p0
    intro s1 σ1 dx eh t1 R1 ev1 xr
    subst eh
    replace p0 := PostS.shift t1 p0
    unfold catchS at p0
    split at p0
    · rename_i hok
      simp only [Bool.and_eq_true, List.all_cons, List.all_nil, Bool.and_true] at hok
      refine ⟨C.sub c d, xs c hok.1 hok.2, fun hsub a ha => ?_, fun hsub => ?_⟩
      · have e5 : ([d].any fun d => C.sub c d) = true := by simp [hsub]
        rw [e5, if_pos rfl] at p0
        dsimp only at p0
        · have hdx : fs = [] → dx = none := fun hfs => by
            rcases xr with x | ⟨dd, us, nf, _⟩
            · exact x.2
            · exact absurd hfs nf
          refine ⟨c, fs, rfl, hok.1, hdx, s1, ρ1, rfl, R1.wx, ev1.enter0, ?_⟩
          cases e6 : mh c fs ρ1 s1.h with
          | ok f ρ2 h2 =>
            rw [e6] at p0
            intro s2 σ2 eh2 t2 R2 ev2
            have q := p0 s2 σ2 eh2 t2 (R2.wx (e := G.exs)) (ev2.leave0 hxs)
            cases f with
            | next => exact q
            | brk => exact q
            | cont => exact q
            | ret dd => exact fun v rv => q v (RV.wx (G := G.wx none) (e := G.exs) rv)
          | exc c2 fs2 ρ2 h2 => rw [e6] at p0; exact p0.elim
          | stuck => rw [e6] at p0; exact p0.elim
      · have e5 : ([d].any fun d => C.sub c d) = false := by simp [hsub]
        rw [e5, if_neg Bool.false_ne_true] at p0
        exact p0 s1 σ1 dx rfl (TR.refl _) R1 ev1 xr
    · exact p0.elim
/-! ### isinstance of the exception in hand -/
theorem exArgs {i : Nat} {n : Str} {np : Pos} {rest : List Expr} {t : TA} (hi : X.N[i]? = some n) (hv : Vis X.env.scope n) (hd : (n == ("__debug__" : Str)) = false) (hcd : (n == ("__classdict__" : Str)) = false) (hr : PA X rest t) :
    PA X (.Name n np :: rest) (tCons (tVar i) t) := pa_cons (pe_var hi hv hd hcd) hr (star_cons rfl _ _)
theorem snd_exIs {a D : Addr} {i : Nat} {n x : Str} {cv : Value} {c : V} {b : Bool} {p np cp pos : Pos} {xw : List (Nat × Mini.D) × Option Addr} (hx : G.exs = some ((i, .ref a), xw)) (hi : X.N[i]? = some n) (hv : Vis X.env.scope n) (hd : (n == ("__debug__" : Str)) = false) (hcd : (n == ("__classdict__" : Str)) = false)
    (hg : Gl X "isinstance") (hm : X.mg "isinstance" = none) (hC : CallR X (.builtin "isinstance") (rIsE X.K D a)) (hc : PE X (.Name x cp) (tC c)) (hu : ∀ u, RelV c u → u = cv) (hk : PySem.W.kitOne X.K (.ref D) cv = some b) :
    PE X (.Call (.Name "isinstance" p) [.Name n np, .Name x cp] [] pos) (rdE G W fun _ h => .ok (.bl b) h) :=
  PE.imp (pe_callB hC hg hm PyProof.Rows.boot_isinstance (exArgs hi hv hd hcd (pa_cons hc pa_nil (star_cons rfl _ _))) (by decide) (by decide) (star_cons rfl _ _) (back_any (by rfl))) fun σ H Q ⟨s, ρ, e, R, ev, p0⟩ => by
    subst e
    exact ⟨.ref a, (ev.ex_ i _ _ hx).1, c, cv, b, rfl, hu, hk, p0.now R rfl⟩
end
end L2.Mini
set_option Elab.async false
set_option linter.all false
set_option maxRecDepth 100000
set_option maxHeartbeats 4000000
/-! Mini: isinstance of an exception that has fields; its fields. -/
namespace L2.Mini
open PySem PySem.Spec PyProof.Rows PySem.Calls
section
variable {K : PySem.W.Frag} {x D : Addr} {ox : Obj} {od : Option Obj}
/-- what BaseException's own way to attributes comes to for __class__, a dict or none -/
theorem cls_found (C : ExcC K D) : PySem.W.findObj K D od "__class__" = some (.bind (.builtin "getset_descriptor.__get__") (.builtin "object.__class__")) := by
  obtain ⟨cd, hc, _⟩ := PySem.W.any_some C.hd
  unfold PySem.W.findObj
  rw [hc, Option.bind_some, C.ha, Option.bind_some]
  simp [C.hn, C.ht]
theorem cls_told {prog : Program} {w : World} {A : Around} {E : Value → Shared → Prop} {Q : Option Value → Shared → Prop} {s : Shared} (C : ExcC K D) (k : K.In s.heap) (I : PySem.W.InstAt s.heap x ox D od) (h : Q (some (.ref D)) { s with toks := s.toks + 1 }) :
    wpAny (model prog w) A (getAttr? (.ref x) "__class__") Q E s := by
  obtain ⟨hp, g, dr, tk, os⟩ := s
  have own := I.type (M := model prog w)
  have way := PySem.W.looks_findIn (M := model prog w) k C.hg
  have none_ := PySem.W.looks_findIn (M := model prog w) k C.hk
  have fnd := PySem.W.looks_find (M := model prog w) k I (cls_found (od := od) C)
  have isB : PySem.W.Looks (model prog w) hp (isInstance (.ref x) (.type "BaseException")) true := own.andThen (PySem.W.looks_subIn k C.hs)
  have ne : (onTheHeap (Value.ref D) && Value.builtin "BaseException.__getattribute__" == Value.builtin "object.__getattribute__") = false := by
    rw [show (Value.builtin "BaseException.__getattribute__" == Value.builtin "object.__getattribute__") = false by decide +kernel]; rfl
  unfold getAttr? getAttrBy? getAttrBy
  refine wpAny_bind (wpAny_mkText (wpAny_bind (wpAny_attempt (wpAny_holding (wpAny_bind (own.at (wpAny_bind (way.at ?_))))))))
  show wpAny _ _ (if (onTheHeap (Value.ref D) && Value.builtin "BaseException.__getattribute__" == Value.builtin "object.__getattribute__") = true then _ else _) _ _ _
  rw [ne, if_neg Bool.false_ne_true]
  unfold getAttrByItsOwn hookBefore
  refine wpAny_bind ?_
  rw [if_pos (show onTheHeap (Value.ref D) = true from rfl)]
  refine none_.at (wpAny_bind (wpAny_attempt (wpAny_holding ?_)))
  unfold callGetattribute
  rw [show (false && onTheHeap (Value.builtin "BaseException.__getattribute__")) = false from rfl, if_neg Bool.false_ne_true]
  unfold boundAndCalled
  rw [PySem.F.excAttr_ValueError.ga.bind (.ref x)]
  refine wpAny_bind (wpAny_pure ?_)
  show wpAny _ _ (call (.builtin "BaseException.__getattribute__") [.ref x, .str "__class__" tk]) _ _ _
  refine wpAny_call (codeAny_call_builtin PySem.F.excAttr_ValueError.ga.plain PySem.F.entry_bexc_ga ?_)
  refine @PySem.W.check_slot (model prog w) _ _ ⟨hp, g, dr, tk + 1, os⟩ "BaseException.__getattribute__" "BaseException" "__getattribute__" (.ref x) [.str "__class__" tk] [] _ (by decide +kernel) (by decide +kernel) isB (PySem.F.args_bexc_ga (.ref x) (.str "__class__" tk)) ?_
  unfold Builtin.«object.__getattribute__»
  refine wpAny_bind (wpAny_of_eq (a := ((Value.ref x : Value), [Value.str "__class__" tk])) (by first | rfl | (simp only [slotArgs]; rfl)) ?_)
  refine wpAny_bind (wpAny_pure (wpAny_bind (own.at (wpAny_bind (fnd.at ?_)))))
  show wpAny _ _ (holding [Value.builtin "object.__class__"] (call (.builtin "getset_descriptor.__get__") [.builtin "object.__class__", .ref x, .ref D]) >>= ret) _ _ _
  refine wpAny_bind (wpAny_holding (wpAny_call (PySem.W.class_get (s := ⟨hp, g, dr, tk + 1, os⟩) (ox := ox) (od := od) k I C.hm ?_)))
  refine wpAny_pure ?_
  show wpAny _ _ (handedOut (.ref D)) _ _ _
  rw [PySem.W.handedOut_of (v := .ref D) rfl]
  first
    | exact wpAny_pure (wpAny_pure h)
    | exact wpAny_pure h
    | exact wpAny_pure (wpAny_bind (wpAny_pure (wpAny_pure h)))
theorem kitX_exc (C : ExcC K D) : PySem.W.KitX K (.ref x) (.ref D) (fun h => PySem.W.InstAt h x ox D od) where
  ty := fun _ _ _ I => I.type
  it := fun M h k I => by
    obtain ⟨cd, hc, _⟩ := PySem.W.any_some C.hd
    unfold PySem.W.clsIn at hc
    split at hc
    · rename_i c' d' cd' sl' ho
      intro A' Q' E' s' kk q
      unfold isType loadHead
      exact wpAny_bind (wpAny_loadPart (kk _ _ (k _ _ ho)) (wpAny_pure q))
    · cases hc
  ne := (PySem.W.handS_kitx_exc (x := x) (ox := ox) C.hg C.hk C.hs C.hd C.ha C.hn C.ht C.hm).ne
  ca := fun k I q => cls_told C k I q
end
/-- isinstance(e, c), e the exception in hand, its dict or none -/
def rIsX (K : PySem.W.Frag) (D a : Addr) (dx : Option Addr) : List V → Hp → VK → Prop := fun xs H Q => ∃ (c : V) (cv : Value) (b : Bool), xs = [.ref a, c] ∧ (∀ u, RelV c u → u = cv) ∧ PySem.W.kitOne K (.ref D) cv = some b ∧ (∀ d, dx = some d → ∃ us, H d = some (.xd us)) ∧ Q (.bl b) H
theorem call_isX {X : Cx} {a D : Addr} {dx : Option Addr} {oe : Obj} {pn : List (Addr × Obj)} (C : ExcC X.K D) (hz : Zc (.ref D) dx oe) (hf : ∃ vs, oe.data = .fields vs) : CallR (X.suite a ((a, oe) :: pn)) (.builtin "isinstance") (rIsX X.K D a dx) := by
  intro pins s σ H xs us Q I r h
  obtain ⟨c, cv, b, rfl, hcv, e, hd, q⟩ := h
  cases r with
  | cons rx rr =>
    cases rr with
    | cons rt rr =>
      cases rr
      cases rx
      have ec := hcv _ rt
      subst ec
      obtain ⟨hget, _⟩ := I.pin (a, oe) (List.mem_append.mpr (.inl List.mem_cons_self))
      obtain ⟨vs, hv⟩ := hf
      have J : ∃ od, PySem.W.InstAt s.heap a oe D od := by
        cases dx with
        | none =>
          refine ⟨none, hget, hz.1, by unfold PySem.W.notCls; rw [hv] <;> rfl, ?_⟩
          rw [hz.2]
          exact trivial
        | some d =>
          obtain ⟨us, hu⟩ := hd d rfl
          have hx : ObjOk X.prog X.w H s.heap d (.xd us) := I.hok d _ hu
          obtain ⟨mA, hns, _⟩ := hx
          obtain ⟨od, ho, _⟩ := lookIn_ns hns
          exact ⟨some od, hget, hz.1, by unfold PySem.W.notCls; rw [hv] <;> rfl, by rw [hz.2]; exact ho⟩
      obtain ⟨od, J⟩ := J
      exact PySem.W.kia_one (kitX_exc (od := od) C) I.kIn J e (fun z => nomatch z) fun tk => ⟨.bl b, H, I.kept (t' := tk) fun _ _ z => z, rfl, q⟩
section
variable {G : Gx} {W : WX} {X : Cx} [KEq G X.K] [WEq G X.w]
theorem XR.dict {s : Sx} {fs : List (Nat × Mini.D)} {dx : Option Addr} (h : XR G s fs dx) : ∀ d, dx = some d → ∃ us, s.H d = some (.xd us) := fun d e => by
  rcases h with h | ⟨d', us, nf, h1, h2, _⟩
  · rw [h.2] at e; cases e
  · rw [h1] at e; cases e
    exact ⟨us, h2⟩
theorem snd_exIsX {a D : Addr} {i : Nat} {n x : Str} {cv : Value} {c : V} {b : Bool} {p np cp pos : Pos} {xw : List (Nat × Mini.D) × Option Addr} (hx : G.exs = some ((i, .ref a), xw)) (hi : X.N[i]? = some n) (hv : Vis X.env.scope n) (hd : (n == ("__debug__" : Str)) = false) (hcd : (n == ("__classdict__" : Str)) = false)
    (hg : Gl X "isinstance") (hm : X.mg "isinstance" = none) (hC : CallR X (.builtin "isinstance") (rIsX X.K D a xw.2)) (hc : PE X (.Name x cp) (tC c)) (hu : ∀ u, RelV c u → u = cv) (hk : PySem.W.kitOne X.K (.ref D) cv = some b) :
    PE X (.Call (.Name "isinstance" p) [.Name n np, .Name x cp] [] pos) (rdE G W fun _ h => .ok (.bl b) h) :=
  PE.imp (pe_callB hC hg hm PyProof.Rows.boot_isinstance (exArgs hi hv hd hcd (pa_cons hc pa_nil (star_cons rfl _ _))) (by decide) (by decide) (star_cons rfl _ _) (back_any (by rfl))) fun σ H Q ⟨s, ρ, e, R, ev, p0⟩ => by
    subst e
    obtain ⟨h1, h2⟩ := ev.ex_ i _ _ hx
    exact ⟨.ref a, h1, c, cv, b, rfl, hu, hk, h2.dict, p0.now R rfl⟩
/-- reading a field of the exception in hand -/
def FldR (X : Cx) (a D : Addr) (dx : Option Addr) (n : Str) : Prop := ∀ (nm : Str) (np : Pos) (te : TE) (pos : Pos), PE X (.Name nm np) te → PE X (.Attribute (.Name nm np) n pos) (tXf a (.ref D) dx D n te)
theorem fldR_of {X : Cx} {a D : Addr} {oe : Obj} {dx : Option Addr} {pn : List (Addr × Obj)} {n : Str} (T : XfC X.K D) (hno : PySem.W.findIn X.K (.ref D) n = some none) (hz : Zc (.ref D) dx oe) (hf : ∃ vs, oe.data = .fields vs) : FldR (X.suite a ((a, oe) :: pn)) a D dx n :=
  fun nm np te pos he => pe_xf T hno hz hf he
theorem snd_exFld {a D : Addr} {i : Nat} {n : Str} {f : Nat} {np pos : Pos} {xw : List (Nat × Mini.D) × Option Addr} (hx : G.exs = some ((i, .ref a), xw)) (hi : X.N[i]? = some n) (hv : Vis X.env.scope n) (hd : (n == ("__debug__" : Str)) = false) (hcd : (n == ("__classdict__" : Str)) = false)
    (hF : FldR X a D xw.2 (G.nm f)) : PE X (.Attribute (.Name n np) (G.nm f) pos) (rdE G W fun _ h => match getF xw.1 f with | some d => .ok d h | none => .stuck) :=
  PE.imp (hF n np _ pos (pe_var hi hv hd hcd)) fun σ H Q ⟨s, ρ, e, R, ev, p0⟩ => by
    subst e
    obtain ⟨h1, h2⟩ := ev.ex_ i _ _ hx
    cases hf : getF xw.1 f with
    | none => rw [hf] at p0; exact p0.elim
    | some d =>
      rw [hf] at p0
      rcases h2 with h2 | ⟨dd, us, nf, e1, e2, k, q⟩
      · rw [h2.1] at hf; cases hf
      · obtain ⟨u, hu, ru⟩ := q f d hf
        exact ⟨.ref a, h1, rfl, rfl, dd, us, u, e1, e2, hu, p0.now R ru⟩
end
end L2.Mini
set_option Elab.async false
set_option linter.all false
set_option maxRecDepth 100000
set_option maxHeartbeats 1000000
/-! Mini: dicts' displays, list(range(a)), len(set(a)). -/
namespace L2.Mini
open PySem PySem.Spec PyProof.Rows
section
variable {G : Gx} {W : WX} {X : Cx} [KEq G X.K] [WEq G X.w]
theorem snd_dic {pos : Pos} : PE X (.Dict [] [] pos) (rdE G W fun _ h => .ok (.ref h.length) (h ++ [.dic []])) :=
  PE.imp pe_dnewK fun σ H Q ⟨s, ρ, e, R, ev, p⟩ q hq => by
    subst e
    have t : TR s (s.push q (.dic []) (.dK [])) := TR.push R hq
    exact p.at (s.push q (.dic []) (.dK [])) rfl t (R.push hq ⟨[], upd_same, rfl⟩) ⟨q, rfl, if_pos rfl⟩
def pairV : List V → List (V × V)
  | x :: y :: r => (x, y) :: pairV r
  | _ => []
theorem RVs.pairs {s : Sx} : ∀ {xs : List Mini.D} {us : List V}, s.RVs G xs us → (pairUp xs).all (fun p => isKey p.1) = true → ∃ kvs : List (Key × V), s.RKs G (pairUp xs) kvs ∧ pairV us = kvs.map fun kv => (kV kv.1, kv.2)
  | [], _, h, _ => by cases h; exact ⟨[], rfl, rfl⟩
  | [_], _, ⟨u, r, e, _, b⟩, _ => by subst e; cases (show r = [] from b); exact ⟨[], rfl, rfl⟩
  | x :: y :: xs, _, ⟨u, r, e, a, u2, r2, e2, a2, b⟩, k => by
    subst e; subst e2
    have k' : (isKey x && (pairUp xs).all fun p => isKey p.1) = true := k
    obtain ⟨k1, k2⟩ := Bool.and_eq_true_iff.mp k'
    obtain ⟨kk, hk⟩ := keyK_of k1
    cases keyK_rv hk a
    obtain ⟨kvs, h1, h2⟩ := RVs.pairs b k2
    refine ⟨(kk, u2) :: kvs, ⟨kk, u2, kvs, rfl, hk, a2, h1⟩, ?_⟩
    show (kV kk, u2) :: pairV r2 = _
    rw [h2]; rfl
/-- a display's parts, read -/
def rdP (G : Gx) (W : WX) (m : En → Hm → Res (List Mini.D)) : St → Hp → (List (V × V) → Hp → Prop) → Prop := fun σ H Q => ∃ s ρ, s.H = H ∧ REL G s ∧ EV G s ρ σ ∧ Post G W σ (rVs G) s (m ρ s.h) fun vs H => Q (pairV vs) H
theorem tp_nil : ∀ σ H Q, rdP G W (fun _ h => .ok [] h) σ H Q → tPairs [] σ H Q := fun σ H Q ⟨s, ρ, e, R, ev, p⟩ => by
  subst e
  exact Post.now (rel := rVs G) (b := []) (c := []) p R (show s.RVs G [] [] from rfl)
theorem tp_cons {ma mb : En → Hm → Res Mini.D} {ms : En → Hm → Res (List Mini.D)} {trs : List (TE × TE)} (h : ∀ σ H Q, rdP G W ms σ H Q → tPairs trs σ H Q) :
    ∀ σ H Q, rdP G W (fun ρ h => (ma ρ h).bind fun x h => ((mb ρ h).bind fun y h => (ms ρ h).bind fun xs h => .ok (y :: xs) h).bind fun xs h => .ok (x :: xs) h) σ H Q → tPairs ((rdE G W ma, rdE G W mb) :: trs) σ H Q := fun σ H Q ⟨s, ρ, e, R, ev, p⟩ => by
  subst e
  refine ⟨s, ρ, rfl, R, ev, (Post.bind p).imp fun x H1 ⟨s1, dx, e1, t1, R1, q1, p1⟩ => ?_⟩
  subst e1
  have p1' : Post G W σ (rVs G) s1 ((mb ρ s1.h).bind fun y h => (ms ρ h).bind fun xs h => .ok (dx :: y :: xs) h) fun vs H => Q (pairV vs) H := by
    have e : ((mb ρ s1.h).bind fun y h => (ms ρ h).bind fun xs h => Res.ok (dx :: y :: xs) h) = ((mb ρ s1.h).bind fun y h => (ms ρ h).bind fun xs h => Res.ok (y :: xs) h).bind fun xs h => Res.ok (dx :: xs) h := by
      cases mb ρ s1.h with
      | ok y h => show (ms ρ h).bind _ = ((ms ρ h).bind _).bind _; cases ms ρ h <;> rfl
      | exc _ _ _ => rfl
      | stuck => rfl
    rw [e]; exact p1
  refine ⟨s1, ρ, rfl, R1, ev.mono t1, (Post.bind p1').imp fun y H2 ⟨s2, dy, e2, t2, R2, q2, p2⟩ => ?_⟩
  subst e2
  refine h σ s2.H _ ⟨s2, ρ, rfl, R2, (ev.mono t1).mono t2, (Post.bind p2).imp fun vs H3 ⟨s3, ds, e3, t3, R3, q3, p3⟩ => ?_⟩
  subst e3
  exact Post.now (c := x :: y :: vs) p3 R3 ⟨x, _, rfl, RV.mono (t2.trans t3) q1, y, _, rfl, RV.mono t3 q2, q3⟩
theorem snd_disp {ms : En → Hm → Res (List Mini.D)} {keys : List (Option Expr)} {vals : List Expr} {pos : Pos} {trs : List (TE × TE)} (hp : PPs X pos keys vals trs) (ht : ∀ σ H Q, rdP G W ms σ H Q → tPairs trs σ H Q)
    (hall : keys.all (·.isSome) = true) (hl : keys.length = vals.length) (h0 : keys ≠ []) (h15 : keys.length ≤ 15) :
    PE X (.Dict keys vals pos) (rdE G W fun ρ h => (ms ρ (h ++ [.dic []])).bind fun xs h' => dispD h.length xs h') :=
  PE.imp (pe_disp hp hall hl h0 h15) fun σ H Q ⟨s, ρ, e, R, ev, p⟩ q hq => by
    subst e
    have t : TR s (s.push q (.dic []) (.dK [])) := TR.push R hq
    have R1 : REL G (s.push q (.dic []) (.dK [])) := R.push hq ⟨[], upd_same, rfl⟩
    have am1 : (s.push q (.dic []) (.dK [])).am s.h.length = some q := if_pos rfl
    have p1 : Post G W σ (rV G) (s.push q (.dic []) (.dK [])) ((ms ρ (s.push q (.dic []) (.dK [])).h).bind fun xs h' => dispD s.h.length xs h') Q := Post.shift t p
    have n1 : (s.push q (.dic []) (.dK [])).h[s.h.length]? = some (.dic []) := by show (s.h ++ [Node.dic []])[s.h.length]? = _; simp
    clear p
    refine ht σ _ _ ⟨s.push q (.dic []) (.dK []), ρ, rfl, R1, ev.mono t, (Post.bind p1).imp fun vs H2 ⟨s2, xs, e2, t2, R2, q2, p2⟩ => ?_⟩
    subst e2
    have am2 := t2.al _ _ am1
    unfold dispD at p2
    dsimp only at p2
    split at p2
    · rename_i hn
      obtain ⟨us, h1, h2⟩ := R2.node _ _ q hn am2
      cases (show us = [] from h2)
      refine ⟨h1, ?_⟩
      split at p2
      · rename_i hk
        obtain ⟨hk, hl2⟩ := Bool.and_eq_true_iff.mp hk
        obtain ⟨kvs, r1, r2⟩ := RVs.pairs q2 hk
        refine ⟨kvs, r2, by rw [← RKs.length r1]; exact of_decide_eq_true hl2, ?_⟩
        have t3 : TR s2 (s2.put s.h.length q (.dic ((pairUp xs).foldl (fun acc p => dput acc p.1 p.2) [])) (.dK (mergeK [] kvs))) := TR.put R2 hn (by intro z; cases z) am2
        exact p2.at (s2.put s.h.length q (.dic ((pairUp xs).foldl (fun acc p => dput acc p.1 p.2) [])) (.dK (mergeK [] kvs))) rfl t3 (R2.put hn (by intro z; cases z) am2 ⟨_, upd_same, RKs.mono t3 (RKs.merge r1 (show s2.RKs G [] [] from rfl))⟩) ⟨q, rfl, am2⟩
      · exact p2.elim
    · exact p2.elim
theorem rng_rv {s : Sx} (n : Int) : s.RVs G (rangeD 0 n.toNat) (rgV 0 n) := by
  unfold rangeD rgV
  rw [Int.sub_zero]
  have key : ∀ l : List Nat, s.RVs G (l.map fun (k : Nat) => Mini.D.int (0 + (k : Int))) (l.map fun (i : Nat) => V.int (0 + (i : Int))) := fun l => by
    induction l with
    | nil => exact rfl
    | cons a l ih => exact ⟨_, _, rfl, rfl, ih⟩
  exact key _
theorem snd_lrng (hc : X.calm = true) {mk : Bool} {a : Expr} {p p2 pos pos2 : Pos} (hg : Gl X "list") (hm : X.mg "list" = none) (hg2 : Gl X "range") (hm2 : X.mg "range" = none) (h1 : noStar1 a = true) {ma : En → Hm → Res Mini.D} (ha : PE X a (rdE G W ma)) :
    PE X (.Call (.Name "list" p) [.Call (.Name "range" p2) [a] [] pos2] [] pos) (rdE G W fun ρ h => (ma ρ h).bind fun x h => lrngD mk x h) :=
  PE.imp (pe_listRg hc hg hm (prg_1 hg2 hm2 ha (star_cons h1 _ _))) fun σ H Q ⟨s, ρ, e, R, ev, p⟩ => by
    subst e
    refine ⟨s, ρ, rfl, R, ev, (Post.bind p).imp fun v H1 ⟨s1, d, e1, t1, R1, q1, p1⟩ => ?_⟩
    subst e1
    unfold lrngD at p1
    dsimp only at p1
    split at p1
    · rename_i j
      split at p1
      · rename_i hj
        have hj := of_decide_eq_true hj
        refine ⟨j, q1, ⟨by decide, by decide, hj.1, by omega, by omega⟩, fun q hq => lay_lst R1 hq (rng_rv j) p1⟩
      · exact p1.elim
    · exact p1.elim
theorem snd_lset (hc : X.calm = true) {a : Expr} {p p2 pos pos2 : Pos} (hg : Gl X "len") (hm : X.mg "len" = none) (hg2 : Gl X "set") (hm2 : X.mg "set" = none) (h1 : noStar1 a = true) {ma : En → Hm → Res Mini.D} (ha : PE X a (rdE G W ma)) :
    PE X (.Call (.Name "len" p) [.Call (.Name "set" p2) [a] [] pos2] [] pos) (rdE G W fun ρ h => (ma ρ h).bind fun x h => lsetD x h) :=
  PE.imp (RZ.pe_lenSetI hg hm hg2 hm2 ha hc (star_cons h1 _ _)) fun σ H Q ⟨s, ρ, e, R, ev, p⟩ => by
    subst e
    refine ⟨s, ρ, rfl, R, ev, (Post.bind p).imp fun v H1 ⟨s1, d, e1, t1, R1, q1, p1⟩ => ?_⟩
    subst e1
    unfold lsetD at p1
    dsimp only at p1
    split at p1
    · rename_i is hi
      split at p1
      · rename_i hk
        obtain ⟨h2, h3⟩ := Bool.and_eq_true_iff.mp hk
        obtain ⟨l, rfl, hq⟩ := intsD_rd (X := X) R1 q1 hi
        exact ⟨l, is, rfl, hq, of_decide_eq_true h2, of_decide_eq_true h3, p1.now R1 rfl⟩
      · exact p1.elim
    · exact p1.elim
end
end L2.Mini
set_option Elab.async false
set_option linter.all false
set_option maxRecDepth 100000
set_option maxHeartbeats 1000000
/-! Mini: list(zip(a, b)): the zip whose first tuple is kept. -/
namespace L2.Mini
open PySem PySem.Spec PyProof.Rows
section
variable {prog : Program} {w : World} {A : Around} {E : Value → Shared → Prop} {s : Shared} {z TI TO i1 i2 l1 l2 : Addr}
theorem wpAny_alive {M : Model} {a : Addr} {Q : Option Obj → Shared → Prop} (h : Q (s.heap.get? a) s) : wpAny M A (loadIfAlive a) Q E s := fun Γ p hΓ => by
  unfold loadIfAlive
  rw [Sem.wp_loadIfAlive]
  exact h
/-- a zip that has handed its tuple out -/
abbrev IsZipK (h : Heap) (z TI TO T : Addr) (b : Bool) : Prop :=
  h.get? z = some { cls := .type "zip", dict := none, data := .fields #[rawInt T, .bool b, .bool false, .ref TI, .ref TO], slots := #[] }
theorem kept_free {T : Addr} {b : Bool} {ot : Obj} {Q : Bool → Shared → Prop} (hz : IsZipK s.heap z TI TO T b) (hT : s.heap.get? T = some ot)
    (hQ : ∀ h', IsZipK h' z TI TO T true → Heap.SameBut z s.heap h' → Q false { s with heap := h' }) : wpAny (model prog w) A (Builtin.SmallTypes.ownedTupleIsFree (.ref z)) Q E s := by
  unfold Builtin.SmallTypes.ownedTupleIsFree
  refine wpAny_bind (wpAny_field hz rfl (x := rawInt T) rfl ?_)
  show wpAny _ _ (loadIfAlive ((T : Int)).toNat >>= _) _ _ _
  refine wpAny_bind (wpAny_alive ?_)
  rw [Int.toNat_natCast, hT]
  simp only [Option.isNone_some, Bool.false_eq_true, if_false]
  refine wpAny_bind (wpAny_field hz rfl (x := .bool b) rfl ?_)
  cases b with
  | true =>
    simp only [bne_self_eq_false, Bool.false_eq_true, if_false]
    exact wpAny_pure (hQ _ hz (Heap.SameBut.refl _ _))
  | false =>
    rw [if_pos (by decide)]
    refine wpAny_bind (wpAny_setField_rec hz (by simp) fun h' hz' hs' => ?_)
    exact wpAny_pure (hQ h' hz' hs')
theorem zipK_next_item {T : Addr} {bb : Bool} {ot : Obj} {k1 k2 : Nat} {xs ys : Array Value} {x y : Value} {Q : Value → Shared → Prop} (D : ZipApart z TI TO i1 i2 l1 l2)
    (hz : IsZipK s.heap z TI TO T bb) (hT : s.heap.get? T = some ot) (hTI : IsPair s.heap TI (.ref i1) (.ref i2))
    (h1 : s.heap.IsListIter i1 l1 k1) (h2 : s.heap.IsListIter i2 l2 k2) (hl1 : s.heap.IsList l1 xs) (hl2 : s.heap.IsList l2 ys) (hx : xs[k1]? = some x) (hy : ys[k2]? = some y)
    (hQ : ∀ h', IsZipK h' z TI TO T true → h'.IsListIter i1 l1 (k1 + 1) → h'.IsListIter i2 l2 (k2 + 1) → IsPair h' s.heap.objs.size x y → h'.objs.size = s.heap.objs.size + 1 →
      (∀ c o, c ≠ z → c ≠ i1 → c ≠ i2 → s.heap.get? c = some o → h'.get? c = some o) → Q (.ref s.heap.objs.size) { s with heap := h' }) :
    wpAny (model prog w) A (Builtin.«zip.__next__» ⟨[.ref z], []⟩) (fun fin s' => ∃ v, fin = .done (.ret v) ∧ Q v s') E s := by
  show wpAny _ _ (field (.ref z) 2 >>= _) _ _ _
  refine wpAny_bind (wpAny_field hz rfl (x := .bool false) rfl ?_)
  show wpAny _ _ (field (.ref z) 3 >>= _) _ _ _
  refine wpAny_bind (wpAny_field hz rfl (x := .ref TI) rfl ?_)
  refine wpAny_bind (wpAny_seqItems hTI rfl ?_)
  show wpAny _ _ (Builtin.SmallTypes.ownedTupleIsFree (.ref z) >>= _) _ _ _
  refine wpAny_bind (kept_free hz hT fun h₁ hz₁ hs₁ => ?_)
  simp only [Bool.false_eq_true, if_false]
  refine wpAny_bind ?_
  simp only [List.forIn_toArray, List.forIn_cons, List.forIn_nil]
  refine wpAny_bind (wpAny_bind (wpAny_holding ?_))
  show wpAny _ _ (Builtin.SmallTypes.nextOf (.ref i1) >>= _) _ _ _
  refine wpAny_bind (wpAny_nextOf_list_item (h1.extBut hs₁.extBut D.i1z) (hl1.extBut hs₁.extBut D.l1z) hx fun h₂ h1₂ hs₂ => wpAny_pure ?_)
  refine wpAny_pure ?_
  refine wpAny_bind (wpAny_bind (wpAny_holding ?_))
  show wpAny _ _ (Builtin.SmallTypes.nextOf (.ref i2) >>= _) _ _ _
  refine wpAny_bind (wpAny_nextOf_list_item ((h2.extBut hs₁.extBut D.i2z).extBut hs₂.extBut D.i12.symm) ((hl2.extBut hs₁.extBut D.l2z).extBut hs₂.extBut D.l2i1) hy fun h₃ h2₃ hs₃ => wpAny_pure ?_)
  refine wpAny_pure ?_
  refine wpAny_pure ?_
  refine wpAny_bind (wpAny_newTuple ?_ (by show 2 ≤ sizeLine; rw [sizeLine_eq]; omega))
  have hsz : h₃.objs.size = s.heap.objs.size := by rw [hs₃.1, hs₂.1, hs₁.1]
  have hz₃ : IsZipK h₃ z TI TO T true := hs₃.extBut _ _ D.i2z.symm (hs₂.extBut _ _ D.i1z.symm hz₁)
  have h1₃ : h₃.IsListIter i1 l1 (k1 + 1) := h1₂.extBut hs₃.extBut D.i12
  refine wpAny_pure ⟨_, rfl, ?_⟩
  show Q (.ref h₃.objs.size) { s with heap := h₃.push { cls := .type "tuple", data := .seq #[x, y] } }
  rw [hsz]
  refine hQ _ (Heap.get?_push_of_some _ hz₃) (h1₃.at fun o e => Heap.get?_push_of_some _ e) (h2₃.at fun o e => Heap.get?_push_of_some _ e) ?_ (by rw [Heap.size_push, hsz]) fun c o c1 c2 c3 e => ?_
  · rw [← hsz]
    exact Heap.get?_push_size _ rfl
  · exact Heap.get?_push_of_some _ (hs₃.extBut _ _ c3 (hs₂.extBut _ _ c2 (hs₁.extBut _ _ c1 e)))
theorem zipK_next_end {T : Addr} {bb : Bool} {ot : Obj} {k1 k2 : Nat} {xs ys : Array Value} {Q : Fin → Shared → Prop} (hh : A.handled = none) (D : ZipApart z TI TO i1 i2 l1 l2)
    (hz : IsZipK s.heap z TI TO T bb) (hT : s.heap.get? T = some ot) (hTI : IsPair s.heap TI (.ref i1) (.ref i2))
    (h1 : s.heap.IsListIter i1 l1 k1) (h2 : s.heap.IsListIter i2 l2 k2) (hl1 : s.heap.IsList l1 xs) (hl2 : s.heap.IsList l2 ys) (hend : xs[k1]? = none ∨ ys[k2]? = none)
    (hE : ∀ h' e, (∀ c o, c ≠ z → c ≠ i1 → c ≠ i2 → s.heap.get? c = some o → h'.get? c = some o) → (∃ o, h'.get? e = some o ∧ o.cls = .type "StopIteration") → E (.ref e) { s with heap := h' }) :
    wpAny (model prog w) A (Builtin.«zip.__next__» ⟨[.ref z], []⟩) Q E s := by
  show wpAny _ _ (field (.ref z) 2 >>= _) _ _ _
  refine wpAny_bind (wpAny_field hz rfl (x := .bool false) rfl ?_)
  show wpAny _ _ (field (.ref z) 3 >>= _) _ _ _
  refine wpAny_bind (wpAny_field hz rfl (x := .ref TI) rfl ?_)
  refine wpAny_bind (wpAny_seqItems hTI rfl ?_)
  show wpAny _ _ (Builtin.SmallTypes.ownedTupleIsFree (.ref z) >>= _) _ _ _
  refine wpAny_bind (kept_free hz hT fun h₁ hz₁ hs₁ => ?_)
  simp only [Bool.false_eq_true, if_false]
  refine wpAny_bind ?_
  simp only [List.forIn_toArray, List.forIn_cons, List.forIn_nil]
  refine wpAny_bind (wpAny_bind (wpAny_holding ?_))
  show wpAny _ _ (Builtin.SmallTypes.nextOf (.ref i1) >>= _) _ _ _
  cases hx : xs[k1]? with
  | none =>
    exact wpAny_bind (wpAny_nextOf_list_end hh (h1.extBut hs₁.extBut D.i1z) (hl1.extBut hs₁.extBut D.l1z) hx fun h₂ e hs₂ he =>
      hE h₂ e (fun c o c1 c2 _ x => hs₂ _ _ c2 (hs₁.extBut _ _ c1 x)) he)
  | some x =>
    have hy : ys[k2]? = none := by rcases hend with h | h; rw [hx] at h; cases h; exact h
    refine wpAny_bind (wpAny_nextOf_list_item (h1.extBut hs₁.extBut D.i1z) (hl1.extBut hs₁.extBut D.l1z) hx fun h₂ h1₂ hs₂ => wpAny_pure ?_)
    refine wpAny_pure ?_
    refine wpAny_bind (wpAny_bind (wpAny_holding ?_))
    show wpAny _ _ (Builtin.SmallTypes.nextOf (.ref i2) >>= _) _ _ _
    exact wpAny_bind (wpAny_nextOf_list_end hh ((h2.extBut hs₁.extBut D.i2z).extBut hs₂.extBut D.i12.symm) ((hl2.extBut hs₁.extBut D.l2z).extBut hs₂.extBut D.l2i1) hy fun h₃ e hs₃ he =>
      hE h₃ e (fun c o c1 c2 c3 x => hs₃ _ _ c3 (hs₂.extBut _ _ c2 (hs₁.extBut _ _ c1 x))) he)
theorem pyNext_zipK_item {T : Addr} {bb : Bool} {ot : Obj} {k1 k2 : Nat} {xs ys : Array Value} {x y : Value} {Q : Option Value → Shared → Prop} (D : ZipApart z TI TO i1 i2 l1 l2)
    (hz : IsZipK s.heap z TI TO T bb) (hT : s.heap.get? T = some ot) (hTI : IsPair s.heap TI (.ref i1) (.ref i2))
    (h1 : s.heap.IsListIter i1 l1 k1) (h2 : s.heap.IsListIter i2 l2 k2) (hl1 : s.heap.IsList l1 xs) (hl2 : s.heap.IsList l2 ys) (hx : xs[k1]? = some x) (hy : ys[k2]? = some y)
    (hQ : ∀ h', IsZipK h' z TI TO T true → h'.IsListIter i1 l1 (k1 + 1) → h'.IsListIter i2 l2 (k2 + 1) → IsPair h' s.heap.objs.size x y → h'.objs.size = s.heap.objs.size + 1 →
      (∀ c o, c ≠ z → c ≠ i1 → c ≠ i2 → s.heap.get? c = some o → h'.get? c = some o) → Q (some (.ref s.heap.objs.size)) { s with heap := h' }) :
    wpAny (model prog w) A (pyNext (.ref z)) Q E s := by
  have hTy : s.TypeIs (.ref z) "zip" := ⟨_, hz, rfl⟩
  unfold pyNext
  exact wpAny_bind (wpAny_attempt (wpAny_callSpecial?_slot (name := Str.ofString "__next__") hTy PySem.F.slot_zip_next
    (wpAny_call_entry PySem.F.slot_zip_next hTy PySem.F.entry_zip_next
      (zipK_next_item D hz hT hTI h1 h2 hl1 hl2 hx hy fun h' a1 a3 a4 a5 a6 a7 => wpAny_pure (hQ h' a1 a3 a4 a5 a6 a7)) (PySem.F.args_zip_next_1 _))))
theorem pyNext_zipK_end {T : Addr} {bb : Bool} {ot : Obj} {k1 k2 : Nat} {xs ys : Array Value} {Q : Option Value → Shared → Prop} (hh : A.handled = none) (D : ZipApart z TI TO i1 i2 l1 l2)
    (hz : IsZipK s.heap z TI TO T bb) (hT : s.heap.get? T = some ot) (hTI : IsPair s.heap TI (.ref i1) (.ref i2))
    (h1 : s.heap.IsListIter i1 l1 k1) (h2 : s.heap.IsListIter i2 l2 k2) (hl1 : s.heap.IsList l1 xs) (hl2 : s.heap.IsList l2 ys) (hend : xs[k1]? = none ∨ ys[k2]? = none)
    (hQ : ∀ h', (∀ c o, c ≠ z → c ≠ i1 → c ≠ i2 → s.heap.get? c = some o → h'.get? c = some o) → Q none { s with heap := h' }) : wpAny (model prog w) A (pyNext (.ref z)) Q E s := by
  have hTy : s.TypeIs (.ref z) "zip" := ⟨_, hz, rfl⟩
  unfold pyNext
  refine wpAny_bind (wpAny_attempt (wpAny_callSpecial?_slot (name := Str.ofString "__next__") hTy PySem.F.slot_zip_next
    (wpAny_call_entry PySem.F.slot_zip_next hTy PySem.F.entry_zip_next (zipK_next_end hh D hz hT hTI h1 h2 hl1 hl2 hend fun h' e hk he => ?_) (PySem.F.args_zip_next_1 _))))
  obtain ⟨o, ho, hc⟩ := he
  refine wpAny_bind (wpAny_isInstance (T := "StopIteration") (b := true) ⟨o, ho, hc⟩ isSubtype_stop ?_)
  exact wpAny_pure (hQ _ hk)
/-- a zip of two lists after i turns, all its tuples kept -/
structure ZS (z TI TO i1 i2 l1 l2 : Addr) (xs ys : Array Value) (base i : Nat) (h : Heap) : Prop where
  zip : (i = 0 ∧ IsZip h z TI TO .none) ∨ (0 < i ∧ ∃ b, IsZipK h z TI TO base b)
  ti : IsPair h TI (.ref i1) (.ref i2)
  to : ∃ a b, IsPair h TO a b
  it1 : h.IsListIter i1 l1 i
  it2 : h.IsListIter i2 l2 i
  li1 : h.IsList l1 xs
  li2 : h.IsList l2 ys
  size : h.objs.size = base + i
  low : z < base ∧ TO < base ∧ i1 < base ∧ i2 < base
  tups : ∀ j, j < i → ∃ x y, xs[j]? = some x ∧ ys[j]? = some y ∧ IsPair h (base + j) x y
section
variable {xs ys : Array Value} {base i : Nat} {S : Addr} {h h' : Heap}
theorem ZS.over (Z : ZS z TI TO i1 i2 l1 l2 xs ys base i h) (hs : Heap.SameBut S h h') (n1 : z ≠ S) (n2 : TI ≠ S) (n3 : TO ≠ S) (n4 : i1 ≠ S) (n5 : i2 ≠ S) (n6 : l1 ≠ S) (n7 : l2 ≠ S) (hS : S < base) : ZS z TI TO i1 i2 l1 l2 xs ys base i h' where
  zip := by
    rcases Z.zip with ⟨e, hz⟩ | ⟨e, b, hz⟩
    · exact .inl ⟨e, hs.extBut _ _ n1 hz⟩
    · exact .inr ⟨e, b, hs.extBut _ _ n1 hz⟩
  ti := hs.extBut _ _ n2 Z.ti
  to := let ⟨a, b, e⟩ := Z.to; ⟨a, b, hs.extBut _ _ n3 e⟩
  it1 := Z.it1.extBut hs.extBut n4
  it2 := Z.it2.extBut hs.extBut n5
  li1 := Z.li1.extBut hs.extBut n6
  li2 := Z.li2.extBut hs.extBut n7
  size := by rw [hs.1]; exact Z.size
  low := Z.low
  tups := fun j hj => let ⟨x, y, e1, e2, e3⟩ := Z.tups j hj; ⟨x, y, e1, e2, hs.extBut _ _ (Nat.ne_of_gt (Nat.lt_of_lt_of_le hS (Nat.le_add_right base j))) e3⟩
theorem zs_next (D : ZipApart z TI TO i1 i2 l1 l2) (Z : ZS z TI TO i1 i2 l1 l2 xs ys base i s.heap) (hi : i < min xs.size ys.size) {Q : Option Value → Shared → Prop}
    (hQ : ∀ h', ZS z TI TO i1 i2 l1 l2 xs ys base (i + 1) h' → (∀ c o, c ≠ z → c ≠ TO → c ≠ i1 → c ≠ i2 → s.heap.get? c = some o → h'.get? c = some o) → Q (some (.ref (base + i))) { s with heap := h' }) : wpAny (model prog w) A (pyNext (.ref z)) Q E s := by
  have hix : i < xs.size := Nat.lt_of_lt_of_le hi (Nat.min_le_left ..)
  have hiy : i < ys.size := Nat.lt_of_lt_of_le hi (Nat.min_le_right ..)
  obtain ⟨a, b, hTO⟩ := Z.to
  have hx : xs[i]? = some xs[i] := Array.getElem?_eq_getElem hix
  have hy : ys[i]? = some ys[i] := Array.getElem?_eq_getElem hiy
  have hsz := Z.size
  obtain ⟨o1, o2, o3, o4⟩ := Z.low
  rcases Z.zip with ⟨e0, hz⟩ | ⟨e0, bb, hz⟩
  · subst e0
    refine wpAny_pyNext_zip_item D hz Z.ti hTO Z.it1 Z.it2 Z.li1 Z.li2 hx hy fun h' a1 a2 a3 a4 a5 a6 hk => ?_
    have hsz' : s.heap.objs.size = base := hsz
    rw [hsz'] at a1 a5 a6 ⊢
    refine hQ h' ⟨.inr ⟨Nat.one_pos, false, a1⟩, hk _ _ D.TIz D.TITO D.TIi1 D.TIi2 Z.ti, ⟨_, _, a2⟩, a3, a4, Z.li1.at fun o e => hk _ o D.l1z D.l1TO D.l1i1 D.l1i2 e, Z.li2.at fun o e => hk _ o D.l2z D.l2TO D.l2i1 D.l2i2 e, a6, Z.low, fun j hj => ?_⟩ fun c o c1 c2 c3 c4 e => hk c o c1 c2 c3 c4 e
    obtain rfl : j = 0 := by omega
    exact ⟨_, _, hx, hy, a5⟩
  · obtain ⟨x0, y0, _, _, ht⟩ := Z.tups 0 e0
    refine pyNext_zipK_item D hz (show s.heap.get? base = some _ from ht) Z.ti Z.it1 Z.it2 Z.li1 Z.li2 hx hy fun h' a1 a3 a4 a5 a6 hk => ?_
    rw [hsz] at a5 a6 ⊢
    refine hQ h' ⟨.inr ⟨Nat.succ_pos _, true, a1⟩, hk _ _ D.TIz D.TIi1 D.TIi2 Z.ti, ⟨a, b, hk _ _ D.TOz D.TOi1 D.TOi2 hTO⟩, a3, a4, Z.li1.at fun o e => hk _ o D.l1z D.l1i1 D.l1i2 e, Z.li2.at fun o e => hk _ o D.l2z D.l2i1 D.l2i2 e, by rw [a6]; omega, Z.low, fun j hj => ?_⟩ fun c o c1 _ c3 c4 e => hk c o c1 c3 c4 e
    by_cases hj2 : j < i
    · obtain ⟨x, y, e1, e2, e3⟩ := Z.tups j hj2
      exact ⟨x, y, e1, e2, hk _ _ (Nat.ne_of_gt (Nat.lt_of_lt_of_le o1 (Nat.le_add_right base j))) (Nat.ne_of_gt (Nat.lt_of_lt_of_le o3 (Nat.le_add_right base j))) (Nat.ne_of_gt (Nat.lt_of_lt_of_le o4 (Nat.le_add_right base j))) e3⟩
    · obtain rfl : j = i := by omega
      exact ⟨_, _, hx, hy, a5⟩
theorem zs_end (hh : A.handled = none) (D : ZipApart z TI TO i1 i2 l1 l2) (Z : ZS z TI TO i1 i2 l1 l2 xs ys base (min xs.size ys.size) s.heap) {Q : Option Value → Shared → Prop}
    (hQ : ∀ h', (∀ c o, c ≠ z → c ≠ TO → c ≠ i1 → c ≠ i2 → s.heap.get? c = some o → h'.get? c = some o) → Q none { s with heap := h' }) : wpAny (model prog w) A (pyNext (.ref z)) Q E s := by
  have hend : xs[min xs.size ys.size]? = none ∨ ys[min xs.size ys.size]? = none := by
    rcases Nat.le_total xs.size ys.size with h | h
    · exact .inl (by rw [Nat.min_eq_left h]; exact Array.getElem?_eq_none (Nat.le_refl _))
    · exact .inr (by rw [Nat.min_eq_right h]; exact Array.getElem?_eq_none (Nat.le_refl _))
  obtain ⟨a, b, hTO⟩ := Z.to
  rcases Z.zip with ⟨e0, hz⟩ | ⟨e0, bb, hz⟩
  · exact wpAny_pyNext_zip_end hh D hz Z.ti hTO Z.it1 Z.it2 Z.li1 Z.li2 hend hQ
  · obtain ⟨x0, y0, _, _, ht⟩ := Z.tups 0 e0
    exact pyNext_zipK_end hh D hz (show s.heap.get? base = some _ from ht) Z.ti Z.it1 Z.it2 Z.li1 Z.li2 hend fun h' hk => hQ h' fun c o c1 _ c3 c4 e => hk c o c1 c3 c4 e
/-- list.extend's walk over a zip -/
theorem ext_zip {R : Result → Shared → Prop} (hh : A.handled = none) (D : ZipApart z TI TO i1 i2 l1 l2) (hn : min xs.size ys.size ≤ sizeLine) (n1 : z ≠ S) (n2 : TI ≠ S) (n3 : TO ≠ S) (n4 : i1 ≠ S) (n5 : i2 ≠ S) (n6 : l1 ≠ S) (n7 : l2 ≠ S) (hSb : S < base) (res : Value) :
    ∀ (k i : Nat) (s : Shared) (acc : Array Value) (c : Nat), min xs.size ys.size - i = k → i ≤ min xs.size ys.size → ZS z TI TO i1 i2 l1 l2 xs ys base i s.heap → s.heap.get? S = some { cls := .type "list", dict := none, data := .seq acc c, slots := #[] } →
      acc.size = i → (∀ j, j < i → acc[j]? = some (.ref (base + j))) →
      (∀ h' tk acc' c', h'.get? S = some { cls := .type "list", dict := none, data := .seq acc' c', slots := #[] } → acc'.size = min xs.size ys.size → (∀ j, j < min xs.size ys.size → acc'[j]? = some (.ref (base + j))) →
        (∀ j, j < min xs.size ys.size → ∃ x y, xs[j]? = some x ∧ ys[j]? = some y ∧ IsPair h' (base + j) x y) → (∀ c o, c ≠ S → c ≠ z → c ≠ TO → c ≠ i1 → c ≠ i2 → s.heap.get? c = some o → h'.get? c = some o) → R (.ok (.ret res)) { s with heap := h', toks := tk }) →
      codeAny (model prog w) A (.builtin "list.extend.loop" ⟨[.ref S, .ref z, res], []⟩) R s := by
  intro k
  induction k with
  | zero =>
    intro i s acc c hk hi Z hS hsz hacc hR
    obtain rfl : i = min xs.size ys.size := by omega
    refine codeAny_builtin PySem.F.entry_extend_loop ?_
    rw [Around.under_plainId PySem.F.plain_extend_loop _]
    show wpAny _ A.in1 (pyNext (.ref z) >>= _) _ _ s
    refine wpAny_bind (zs_end (A := A.in1) hh D Z fun h' hk' => ?_)
    refine wpAny_pure (hR h' s.toks acc c (hk' S _ (Ne.symm n1) (Ne.symm n3) (Ne.symm n4) (Ne.symm n5) hS) hsz hacc (fun j hj => ?_) fun c o _ c1 c2 c3 c4 e => hk' c o c1 c2 c3 c4 e)
    obtain ⟨x, y, e1, e2, e3⟩ := Z.tups j hj
    obtain ⟨o1, o2, o3, o4⟩ := Z.low
    exact ⟨x, y, e1, e2, hk' _ _ (Nat.ne_of_gt (Nat.lt_of_lt_of_le o1 (Nat.le_add_right base j))) (Nat.ne_of_gt (Nat.lt_of_lt_of_le o2 (Nat.le_add_right base j))) (Nat.ne_of_gt (Nat.lt_of_lt_of_le o3 (Nat.le_add_right base j))) (Nat.ne_of_gt (Nat.lt_of_lt_of_le o4 (Nat.le_add_right base j))) e3⟩
  | succ k ih =>
    intro i s acc c hk hi Z hS hsz hacc hR
    have hlt : i < min xs.size ys.size := by omega
    refine codeAny_builtin PySem.F.entry_extend_loop ?_
    rw [Around.under_plainId PySem.F.plain_extend_loop _]
    show wpAny _ A.in1 (pyNext (.ref z) >>= _) _ _ s
    refine wpAny_bind (zs_next (A := A.in1) D Z hlt fun h' Z' hk' => ?_)
    have hS' := hk' S _ (Ne.symm n1) (Ne.symm n3) (Ne.symm n4) (Ne.symm n5) hS
    show wpAny _ A.in1 (updateSeq S (·.push (.ref (base + i))) >>= _) _ _ _
    refine wpAny_bind ?_
    have sb : Heap.SameBut S h' (h'.update S (Obj.mapSeq (·.push (.ref (base + i))))) := Heap.SameBut.update ..
    refine wpAny_updateSeq hS' rfl (wpAny_pure ⟨plainId_quiet PySem.F.plain_extend_loop _, ih (i + 1) _ (acc.push (.ref (base + i))) _ (by omega) hlt (Z'.over sb n1 n2 n3 n4 n5 n6 n7 hSb) (Heap.get?_update_self _ hS' rfl) (by rw [Array.size_push, hsz]) (fun j hj => ?_) fun h2 tk acc' c' b1 b2 b3 b4 b5 => ?_⟩)
      (by rw [hsz]; omega) (by show (acc.push _).size ≤ sizeLine + 1; rw [Array.size_push, hsz]; omega)
    · rw [Array.getElem?_push, hsz]
      by_cases e : j = i
      · subst e; rw [if_pos rfl]
      · rw [if_neg e]
        exact hacc j (by omega)
    · exact hR h2 tk acc' c' b1 b2 b3 b4 fun c o c0 c1 c2 c3 c4 e => b5 c o c0 c1 c2 c3 c4 (sb.extBut _ _ c0 (hk' c o c1 c2 c3 c4 e))
theorem zip_no_len : typeLookup (.type "zip") "__len__" = pure none := by rw [typeLookup_type, builtinLookup_eq_fast]; kernel_rfl
theorem zip_no_hint : typeLookup (.type "zip") "__length_hint__" = pure none := by rw [typeLookup_type, builtinLookup_eq_fast]; kernel_rfl
theorem ZS.ty {s : Shared} (Z : ZS z TI TO i1 i2 l1 l2 xs ys base i s.heap) : s.TypeIs (.ref z) "zip" := by
  rcases Z.zip with ⟨_, hz⟩ | ⟨_, b, hz⟩ <;> exact ⟨_, hz, rfl⟩
theorem extend_zip {R : Result → Shared → Prop} (hh : A.handled = none) (D : ZipApart z TI TO i1 i2 l1 l2) (hn : min xs.size ys.size ≤ sizeLine) (n1 : z ≠ S) (n2 : TI ≠ S) (n3 : TO ≠ S) (n4 : i1 ≠ S) (n5 : i2 ≠ S) (n6 : l1 ≠ S) (n7 : l2 ≠ S) (hSb : S < base) (res : Value) (c₀ : Nat)
    (Z : ZS z TI TO i1 i2 l1 l2 xs ys base 0 s.heap) (hz : IsZip s.heap z TI TO .none) (hS : s.heap.get? S = some { cls := .type "list", data := .seq #[] c₀ })
    (hR : ∀ h' tk acc' c', h'.get? S = some { cls := .type "list", dict := none, data := .seq acc' c', slots := #[] } → acc'.size = min xs.size ys.size → (∀ j, j < min xs.size ys.size → acc'[j]? = some (.ref (base + j))) →
        (∀ j, j < min xs.size ys.size → ∃ x y, xs[j]? = some x ∧ ys[j]? = some y ∧ IsPair h' (base + j) x y) → (∀ c o, c ≠ S → c ≠ z → c ≠ TO → c ≠ i1 → c ≠ i2 → s.heap.get? c = some o → h'.get? c = some o) → R (.ok (.ret res)) { s with heap := h', toks := tk }) :
    wpAny (model prog w) A.in1 (Builtin.List.listExtendWith (.ref S) (.ref z) res)
      (fun fin s' => match fin with | .done f => R (.ok f) s' | .again c' => c'.quiet = true ∧ codeAny (model prog w) A c' R s') (fun e s' => R (.error e) s') s := by
  unfold Builtin.List.listExtendWith
  refine wpAny_bind (wpAny_typeOf Z.ty ?_)
  have h1 : Builtin.List.listSameRef (.ref S) (.ref z) = false := by simp [Builtin.List.listSameRef, Ne.symm n1]
  have h2 : (Value.type "zip" == Value.type "list") = false := by decide
  have h3 : (Value.type "zip" == Value.type "tuple") = false := by decide
  simp only [h1, h2, h3, Bool.or_false, Bool.false_eq_true, if_false]
  refine wpAny_bind (wpAny_pyIter_zip hz ?_)
  refine wpAny_bind (wpAny_holding ?_)
  unfold Builtin.List.listLengthHint
  refine wpAny_bind (wpAny_specialOf Z.ty zip_no_len ?_)
  show wpAny _ A.in1 (specialOf (Value.ref z) (Str.ofString "__length_hint__") >>= _) _ _ _
  refine wpAny_bind (wpAny_specialOf Z.ty zip_no_hint ?_)
  refine wpAny_pure ?_
  show wpAny _ A.in1 (rule "list.extend.makes-room" >>= fun _ => Builtin.List.listTouch (.ref S) >>= fun _ =>
    again (.builtin "list.extend.loop" ⟨[.ref S, .ref z, res], []⟩)) _ _ _
  refine wpAny_bind (wpAny_rule ?_)
  refine wpAny_bind ?_
  show wpAny _ A.in1 (updateSeq S (·.push .none) >>= fun _ => updateSeq S (·.pop)) _ _ _
  refine wpAny_bind (wpAny_updateSeq hS rfl ?_)
  have hS₂ := Heap.get?_update_self (Obj.mapSeq (·.push Value.none)) hS rfl
  refine wpAny_updateSeq (hz := by seq_fits) hS₂ rfl ?_
  have hS₃ := Heap.get?_update_self (Obj.mapSeq (·.pop)) hS₂ rfl
  have sb1 : Heap.SameBut S s.heap (s.heap.update S (Obj.mapSeq (·.push Value.none))) := Heap.SameBut.update ..
  have sb2 : Heap.SameBut S (s.heap.update S (Obj.mapSeq (·.push Value.none))) ((s.heap.update S (Obj.mapSeq (·.push Value.none))).update S (Obj.mapSeq (·.pop))) := Heap.SameBut.update ..
  refine wpAny_pure ⟨plainId_quiet PySem.F.plain_extend_loop _, ext_zip hh D hn n1 n2 n3 n4 n5 n6 n7 hSb res (min xs.size ys.size) 0 _ #[] _ rfl (Nat.zero_le _)
    ((Z.over sb1 n1 n2 n3 n4 n5 n6 n7 hSb).over sb2 n1 n2 n3 n4 n5 n6 n7 hSb) hS₃ rfl (fun j hj => absurd hj (Nat.not_lt_zero _)) fun h' tk acc' c' b1 b2 b3 b4 b5 => ?_⟩
  exact hR h' tk acc' c' b1 b2 b3 b4 fun c o c0 c1 c2 c3 c4 e => b5 c o c0 c1 c2 c3 c4 (sb2.extBut _ _ c0 (sb1.extBut _ _ c0 e))
theorem init_zip {R : Result → Shared → Prop} (hh : A.handled = none) (D : ZipApart z TI TO i1 i2 l1 l2) (hn : min xs.size ys.size ≤ sizeLine) (n1 : z ≠ S) (n2 : TI ≠ S) (n3 : TO ≠ S) (n4 : i1 ≠ S) (n5 : i2 ≠ S) (n6 : l1 ≠ S) (n7 : l2 ≠ S) (hSb : S < base)
    (Z : ZS z TI TO i1 i2 l1 l2 xs ys base 0 s.heap) (hz : IsZip s.heap z TI TO .none) (hS : s.heap.get? S = some { cls := .type "list", data := .seq #[] })
    (hR : ∀ h' tk acc' c', h'.get? S = some { cls := .type "list", dict := none, data := .seq acc' c', slots := #[] } → acc'.size = min xs.size ys.size → (∀ j, j < min xs.size ys.size → acc'[j]? = some (.ref (base + j))) →
        (∀ j, j < min xs.size ys.size → ∃ x y, xs[j]? = some x ∧ ys[j]? = some y ∧ IsPair h' (base + j) x y) → (∀ c o, c ≠ S → c ≠ z → c ≠ TO → c ≠ i1 → c ≠ i2 → s.heap.get? c = some o → h'.get? c = some o) → R (.ok (.ret .none)) { s with heap := h', toks := tk }) :
    wpAny (model prog w) A.in1 (Builtin.«list.__init__» ⟨[.ref S, .ref z], []⟩)
      (fun fin s' => match fin with | .done f => R (.ok f) s' | .again c' => c'.quiet = true ∧ codeAny (model prog w) A c' R s') (fun e s' => R (.error e) s') s := by
  show wpAny _ A.in1 (do let old ← Builtin.List.listItems (.ref S); Builtin.List.listUpdate (.ref S) (fun _ => #[]); letGo old.toList.reverse; Builtin.List.listExtendWith (.ref S) (.ref z) .none) _ _ s
  refine wpAny_bind ?_
  unfold Builtin.List.listItems
  refine wpAny_bind (wpAny_seqItems hS rfl (wpAny_pure ?_))
  show wpAny _ A.in1 (updateSeq S (fun _ => #[]) >>= fun _ => letGo (#[] : Array Value).toList.reverse >>= fun _ => Builtin.List.listExtendWith (.ref S) (.ref z) .none) _ _ s
  refine wpAny_bind (wpAny_updateSeq hS rfl ?_)
  have hS₂ := Heap.get?_update_self (Obj.mapSeq (fun _ => (#[] : Array Value))) hS rfl
  have sb : Heap.SameBut S s.heap (s.heap.update S (Obj.mapSeq (fun _ => (#[] : Array Value)))) := Heap.SameBut.update ..
  refine wpAny_bind (wpAny_letGo ?_)
  refine extend_zip hh D hn n1 n2 n3 n4 n5 n6 n7 hSb .none _ (Z.over sb n1 n2 n3 n4 n5 n6 n7 hSb) (sb.extBut _ _ n1 hz) hS₂ fun h' tk acc' c' b1 b2 b3 b4 b5 => ?_
  exact hR h' tk acc' c' b1 b2 b3 b4 fun c o c0 c1 c2 c3 c4 e => b5 c o c0 c1 c2 c3 c4 (sb.extBut _ _ c0 e)
/-- list(z) of a new zip of two lists -/
theorem call_list_zip {Q : Value → Shared → Prop} (hh : A.handled = none) (D : ZipApart z TI TO i1 i2 l1 l2) (hn : min xs.size ys.size ≤ sizeLine)
    (hz : IsZip s.heap z TI TO .none) (hTI : IsPair s.heap TI (.ref i1) (.ref i2)) (hTO : ∃ a b, IsPair s.heap TO a b) (h1 : s.heap.IsListIter i1 l1 0) (h2 : s.heap.IsListIter i2 l2 0) (hl1 : s.heap.IsList l1 xs) (hl2 : s.heap.IsList l2 ys)
    (lo : ∀ c, c ∈ [z, TI, TO, i1, i2, l1, l2] → c < s.heap.objs.size)
    (hQ : ∀ h' tk acc' c', h'.get? s.heap.objs.size = some { cls := .type "list", dict := none, data := .seq acc' c', slots := #[] } → acc'.size = min xs.size ys.size → (∀ j, j < min xs.size ys.size → acc'[j]? = some (.ref (s.heap.objs.size + 1 + j))) →
        (∀ j, j < min xs.size ys.size → ∃ x y, xs[j]? = some x ∧ ys[j]? = some y ∧ IsPair h' (s.heap.objs.size + 1 + j) x y) → (∀ c o, c ≠ z → c ≠ TO → c ≠ i1 → c ≠ i2 → s.heap.get? c = some o → h'.get? c = some o) → Q (.ref s.heap.objs.size) { s with heap := h', toks := tk }) :
    wpAny (model prog w) A (call (.type "list") [.ref z]) Q E s := by
  have lt : ∀ {c : Addr}, c ∈ [z, TI, TO, i1, i2, l1, l2] → c ≠ s.heap.objs.size := fun h => Nat.ne_of_lt (lo _ h)
  refine callType_codes (Q₁ := fun obj s₁ => obj = .ref s.heap.objs.size ∧ s₁ = { s with heap := s.heap.push { cls := .type "list", data := .seq #[] } }) PySem.F.called_list (PySem.F.typeCall_list_1 _) PySem.F.entry_list_init
    (code_list_new _ ⟨rfl, rfl⟩) fun obj s₁ h₁ => ?_
  obtain ⟨rfl, rfl⟩ := h₁
  have hS : (s.heap.push { cls := .type "list", data := .seq #[] }).get? s.heap.objs.size = some { cls := .type "list", data := .seq #[] } := Heap.get?_push_size _ rfl
  have up : ∀ b o, s.heap.get? b = some o → (s.heap.push { cls := .type "list", data := .seq #[] }).get? b = some o := fun b o e => Heap.get?_push_of_some _ e
  have mm : ∀ c, c ∈ [z, TI, TO, i1, i2, l1, l2] → c < s.heap.objs.size + 1 := fun c hc => Nat.lt_succ_of_lt (lo c hc)
  refine ⟨⟨_, hS, rfl⟩, PySem.F.args_list_init_2 _ _, init_zip (A := A.in1) (base := s.heap.objs.size + 1) (xs := xs) (ys := ys) hh D hn (lt (by simp)) (lt (by simp)) (lt (by simp)) (lt (by simp)) (lt (by simp)) (lt (by simp)) (lt (by simp)) (Nat.lt_succ_self _)
    ⟨.inl ⟨rfl, up _ _ hz⟩, up _ _ hTI, (let ⟨a, b, e⟩ := hTO; ⟨a, b, up _ _ e⟩), h1.at fun o e => up _ o e, h2.at fun o e => up _ o e, hl1.at fun o e => up _ o e, hl2.at fun o e => up _ o e, by rw [Heap.size_push], ⟨mm _ (by simp), mm _ (by simp), mm _ (by simp), mm _ (by simp)⟩, fun j hj => absurd hj (Nat.not_lt_zero _)⟩
    (up _ _ hz) hS fun h' tk acc' c' b1 b2 b3 b4 b5 => ?_⟩
  exact ⟨rfl, hQ h' tk acc' c' b1 b2 b3 b4 fun c o c1 c2 c3 c4 e => b5 c o (Nat.ne_of_lt (Heap.lt_size e)) c1 c2 c3 c4 (up _ _ e)⟩
end
end
end L2.Mini
set_option Elab.async false
set_option linter.all false
set_option maxRecDepth 100000
set_option maxHeartbeats 1000000
/-! Mini: list(zip(a, b)), tuple(reversed(a)): the rules. -/
namespace L2.Mini
open PySem PySem.Spec PyProof.Rows
/-- new pairs, one behind the other -/
def updT : Hp → Addr → List (V × V) → Hp
  | H, _, [] => H
  | H, b, p :: r => updT (upd H b (.tup [p.1, p.2])) (b + 1) r
theorem updT_old : ∀ (ps : List (V × V)) (H : Hp) (b c : Addr), c < b → updT H b ps c = H c
  | [], _, _, _, _ => rfl
  | p :: r, H, b, c, h => by
    rw [updT, updT_old r _ (b + 1) c (Nat.lt_succ_of_lt h), upd_ne (Nat.ne_of_lt h)]
theorem updT_at : ∀ (ps : List (V × V)) (H : Hp) (b : Addr) (j : Nat) (p : V × V), ps[j]? = some p → updT H b ps (b + j) = some (.tup [p.1, p.2])
  | p :: r, H, b, 0, q, h => by
    cases h
    show updT (upd H b (.tup [p.1, p.2])) (b + 1) r b = _
    rw [updT_old r _ (b + 1) b (Nat.lt_succ_self b), upd_same]
  | p :: r, H, b, j + 1, q, h => by
    rw [updT, show b + (j + 1) = b + 1 + j from Nat.add_right_comm b j 1]
    exact updT_at r _ (b + 1) j q (by simpa using h)
theorem updT_hi : ∀ (ps : List (V × V)) (H : Hp) (b c : Addr), b + ps.length ≤ c → updT H b ps c = H c
  | [], _, _, _, _ => rfl
  | p :: r, H, b, c, h => by
    have h' : b + (r.length + 1) ≤ c := h
    have h1 : b + 1 + r.length ≤ c := by rw [Nat.add_right_comm]; exact h'
    have h2 : b < c := Nat.lt_of_lt_of_le (Nat.lt_succ_self b) (Nat.le_trans (Nat.le_add_right (b + 1) r.length) h1)
    rw [updT, updT_hi r _ (b + 1) c h1, upd_ne (Nat.ne_of_gt h2)]
def tListZip (K : PySem.W.Frag) (ta : TA) : TE := fun σ H Q => ta σ H fun vs H1 => ∃ a b xs ys, vs = [.ref a, .ref b] ∧ SqL K H1 a xs ∧ SqL K H1 b ys ∧
  ∀ S : Addr, (∀ c, S ≤ c → H1 c = none) → Q (.ref S) (upd (updT H1 (S + 1) (xs.zip ys)) S (.lst ((List.range (xs.zip ys).length).map fun j => V.ref (S + 1 + j))))
theorem vals_rel : ∀ {xs : List V} {us : List Value} {i : Nat} {x : V} {u : Value}, Vals xs us → xs[i]? = some x → us[i]? = some u → RelV x u
  | _, _, 0, _, _, .cons r _, h1, h2 => by cases h1; cases h2; exact r
  | _, _, i + 1, _, _, .cons _ t, h1, h2 => vals_rel (i := i) t (by simpa using h1) (by simpa using h2)
  | _, _, _, _, _, .nil, h1, _ => by simp at h1
theorem zip_get {xs ys : List V} {j : Nat} {x y : V} (h1 : xs[j]? = some x) (h2 : ys[j]? = some y) : (xs.zip ys)[j]? = some (x, y) := by
  rw [List.getElem?_zip_eq_some]
  exact ⟨h1, h2⟩
section
variable {X : Cx} {pins : List (Addr × Obj)} {σ : L2.St} {H H' : Hp} {s : Shared} {h' : Heap}
theorem Inv.laidMany {t' : Nat} (I : Inv X pins σ H s) (k : ∀ b u, s.heap.get? b = some u → h'.get? b = some u) (old : ∀ a, a < s.heap.objs.size → H' a = H a)
    (new : ∀ a o, s.heap.objs.size ≤ a → H' a = some o → ObjOk X.prog X.w H' h' a o) : Inv X pins σ H' { s with heap := h', toks := t' } := by
  have lt : ∀ {b : Addr} {u : HO}, H b = some u → H' b = H b := fun e => old _ (I.hok.lt e)
  refine I.un ⟨fun b o q _ _ _ => k b o q, fun b o q _ _ _ => ⟨o.slots, k b o q⟩, fun b o q n _ => by rw [old b (Heap.lt_size q)]; exact n, fun b o q _ => ⟨o, k b o q⟩, fun b xs q => by rw [lt q]; exact q, fun b o u q => by rw [lt q]; exact q, fun b ps q => ⟨#[], by rw [lt q, q]; simp⟩⟩ fun a o e => ?_
  by_cases ha : a < s.heap.objs.size
  · rw [old a ha] at e
    exact (I.hok a o e).stay (fun b u _ q => k b u q) (fun b q => by rw [lt q]; exact q) fun b xs q => by rw [lt q]; exact q
  · exact new a o (Nat.le_of_not_lt ha) e
theorem pe_listZip {e e2 : Expr} {ta : TA} {p p2 pos pos2 : Pos} (hc : X.calm = true) (hg : Gl X "list") (hm : X.mg "list" = none) (hg2 : Gl X "zip") (hm2 : X.mg "zip" = none) (ha : PA X [e, e2] ta)
    (hs : starEach [e, e2] X.env = (false, eval e X.env) :: starEach [e2] X.env) (hpl : (backTo pos2 (starEach [e2] X.env)).any (·.1) = false)
    (na : starEach [.Call (.Name "zip" p2) [e, e2] [] pos2] X.env = (false, eval (.Call (.Name "zip" p2) [e, e2] [] pos2) X.env) :: starEach [] X.env := by rfl) :
    PE X (.Call (.Name "list" p) [.Call (.Name "zip" p2) [e, e2] [] pos2] [] pos) (tListZip X.K ta) := by
  refine ⟨fun pins s σ H Q I h => ?_⟩
  refine Call_ (ld_blt I hg hm boot_list (PyProof.Rows.callWith_type1 (args_cons ?_ na) na))
  refine Call_ (ld_blt I hg2 hm2 PyProof.Rows.boot_zip (PyProof.Rows.callWith_type1 (thn (ha.run pos2 pins s σ H _ I h) fun us s1 ⟨vs, H1, I1, r1, q1⟩ => ?_) hs hpl))
  obtain ⟨a, b, xs, ys, ex, hqx, hqy, q⟩ := q1
  subst ex
  cases r1 with
  | cons r rr =>
    cases rr with
    | cons r' rr =>
      cases rr
      cases r
      cases r'
      obtain ⟨its, rv, p1, l1⟩ := I1.list hqx
      obtain ⟨its2, rv2, p2', l2⟩ := I1.list hqy
      refine call_zip_2 p1.isList p2'.isList fun hz' hz hTI hTO h1 h2 hsz hk => args_nil ?_
      have hS : hz'.objs.size = s1.heap.objs.size + 5 := hsz
      have lx := rv.length
      have ly := rv2.length
      have hnn : min its.toArray.size its2.toArray.size = (xs.zip ys).length := by rw [List.length_zip, List.size_toArray, List.size_toArray, lx, ly]
      have lta : a < s1.heap.objs.size := p1.lt
      have ltb : b < s1.heap.objs.size := p2'.lt
      refine call_list_zip (xs := its.toArray) (ys := its2.toArray) (I1.ok.hd hc) (PySem.W.ktu_apart s1.heap.objs.size a b p1.lt p2'.lt) (by rw [hnn, List.length_zip]; omega) hz hTI ⟨_, _, hTO⟩ h1 h2 (p1.isList.at fun o e => hk _ o e) (p2'.isList.at fun o e => hk _ o e)
        (fun c hcm => ?_) fun h2' tk acc c' b1 b2 b3 b4 b5 => ?_
      · show c < hz'.objs.size
        rw [hS]
        simp only [List.mem_cons, List.not_mem_nil, or_false] at hcm
        have e5 : ∀ k : Nat, k < 5 → s1.heap.objs.size + k < s1.heap.objs.size + 5 := fun k hk => Nat.add_lt_add_left hk _
        rcases hcm with z | z | z | z | z | z | z
        · rw [z]; exact e5 4 (by decide)
        · rw [z]; exact e5 2 (by decide)
        · rw [z]; exact e5 3 (by decide)
        · rw [z]; exact e5 0 (by decide)
        · rw [z]; exact e5 1 (by decide)
        · rw [z]; exact Nat.lt_of_lt_of_le lta (Nat.le_add_right _ _)
        · rw [z]; exact Nat.lt_of_lt_of_le ltb (Nat.le_add_right _ _)
      · have geS : s1.heap.objs.size ≤ hz'.objs.size := by rw [hS]; exact Nat.le_add_right _ _
        have q' := q hz'.objs.size fun c hc => I1.hok.fresh (Nat.le_trans geS hc)
        have far : ∀ {c : Addr} {o : Obj} (k : Nat), s1.heap.get? c = some o → c ≠ s1.heap.objs.size + k := fun k e => Nat.ne_of_lt (Nat.lt_of_lt_of_le (Heap.lt_size e) (Nat.le_add_right _ _))
        have hlen : ((List.range (xs.zip ys).length).map fun j => V.ref (hz'.objs.size + 1 + j)).length = (xs.zip ys).length := by rw [List.length_map, List.length_range]
        have hzl : (xs.zip ys).length ≤ sizeLine := by rw [List.length_zip]; omega
        rw [hnn] at b2 b3 b4
        refine ⟨.ref hz'.objs.size, upd (updT H1 (hz'.objs.size + 1) (xs.zip ys)) hz'.objs.size (.lst ((List.range (xs.zip ys).length).map fun j => V.ref (hz'.objs.size + 1 + j))),
          Inv.laidMany (s := s1) (t' := tk) I1 (fun c o e => b5 c o (far 4 e) (far 3 e) (far 0 e) (far 1 e) (hk c o e)) (fun c hc => ?_) (fun c o hge e => ?_), rfl, q'⟩
        · have hcS : c < hz'.objs.size := Nat.lt_of_lt_of_le hc geS
          rw [upd_ne (Nat.ne_of_lt hcS), updT_old _ _ _ c (Nat.lt_succ_of_lt hcS)]
        · by_cases hcS : c = hz'.objs.size
          · subst hcS
            rw [upd_same] at e
            cases e
            refine ⟨by rw [hlen]; exact hzl, acc.toList, c', vals_of_at (hlen.trans (b2.symm.trans (by simp))) fun j x u e1 e2 => ?_, by rw [Array.toArray_toList]; exact b1⟩
            have hj : j < (xs.zip ys).length := by
              have := (List.getElem?_eq_some_iff.mp e1).1
              rwa [hlen] at this
            rw [List.getElem?_map, List.getElem?_range hj] at e1
            cases e1
            have := b3 j hj
            rw [← Array.getElem?_toList, e2] at this
            exact Option.some.inj this
          · rw [upd_ne hcS] at e
            by_cases hlt : c < hz'.objs.size + 1
            · rw [updT_old _ _ _ c hlt, I1.hok.fresh hge] at e
              cases e
            · obtain ⟨j, rfl⟩ : ∃ j, c = hz'.objs.size + 1 + j := ⟨c - (hz'.objs.size + 1), (Nat.add_sub_of_le (Nat.le_of_not_lt hlt)).symm⟩
              by_cases hj : j < (xs.zip ys).length
              · obtain ⟨u, v, e1, e2, e3⟩ := b4 j hj
                rw [List.length_zip] at hj
                have hx : xs[j]? = some xs[j] := List.getElem?_eq_getElem (by omega)
                have hy : ys[j]? = some ys[j] := List.getElem?_eq_getElem (by omega)
                rw [updT_at _ _ _ j _ (zip_get hx hy)] at e
                cases e
                refine ⟨by show 2 ≤ sizeLine; rw [sizeLine_eq]; omega, [u, v], .cons (vals_rel rv hx (by simpa using e1)) (.cons (vals_rel rv2 hy (by simpa using e2)) .nil), ⟨_, e3, rfl, _, rfl⟩⟩
              · rw [updT_hi _ _ _ _ (Nat.add_le_add_left (Nat.le_of_not_lt hj) _), I1.hok.fresh hge] at e
                cases e
end
end L2.Mini
set_option Elab.async false
set_option linter.all false
set_option maxRecDepth 100000
set_option maxHeartbeats 1000000
/-! Mini: t[::2] of a tuple. -/
namespace L2.Mini
open PySem PySem.Spec PyProof.Rows L2
theorem twoL_len {α : Type} : ∀ l : List α, (twoL l).length ≤ l.length
  | x :: y :: r => by
    have := twoL_len r
    show (twoL r).length + 1 ≤ r.length + 2
    omega
  | [_] => Nat.le_refl _
  | [] => Nat.le_refl _
theorem twoL_pick {α : Type} : ∀ l : List α, (List.range ((l.length + 1) / 2)).filterMap (fun m => l[m * 2]?) = twoL l
  | x :: y :: r => by
    have ih := twoL_pick r
    have e : ((x :: y :: r).length + 1) / 2 = (r.length + 1) / 2 + 1 := by
      show (r.length + 1 + 1 + 1) / 2 = _
      omega
    rw [e, List.range_succ_eq_map, List.filterMap_cons]
    show x :: List.filterMap (fun m => (x :: y :: r)[m * 2]?) (List.map Nat.succ (List.range ((r.length + 1) / 2))) = x :: twoL r
    rw [List.filterMap_map]
    have e2 : ((fun m => (x :: y :: r)[m * 2]?) ∘ Nat.succ) = fun m => r[m * 2]? := by
      funext m
      show (x :: y :: r)[(m + 1) * 2]? = _
      rw [show (m + 1) * 2 = m * 2 + 1 + 1 by omega, List.getElem?_cons_succ, List.getElem?_cons_succ]
    rw [e2, ih]
  | [x] => by
    rw [show ([x].length + 1) / 2 = 1 by simp, show List.range 1 = [0] from rfl]
    rfl
  | [] => by simp [twoL]
theorem twoL_vals : ∀ {us : List V} {its : List Value}, Vals us its → Vals (twoL us) (twoL its)
  | _, _, .nil => .nil
  | _, _, .cons r .nil => .cons r .nil
  | _, _, .cons r (.cons _ t) => .cons r (twoL_vals t)
section
variable {prog : Program} {w : World} {A : Around} {E : Value → Shared → Prop} {s : Shared}
theorem places_two (n : Nat) : Builtin.Slice.slicePlaces 0 (n : Int) 2 = (n + 1) / 2 := by
  unfold Builtin.Slice.slicePlaces
  have h1 : (2 : Int) > 0 := by omega
  simp only [h1, if_true]
  split <;> omega
theorem applied_two {sl : Addr} {vs : Value} {n : Nat} {Q : Int × Int × Nat → Shared → Prop} (hs : s.heap.IsSliceOf sl .none .none vs) (ps : IsPart vs (some 2))
    (h : Q ((0 : Int), (2 : Int), (n + 1) / 2) s) : wpAny (model prog w) A (Builtin.Slice.sliceApplied (.ref sl) (pure (n : Int))) Q E s := by
  obtain ⟨os, hos, hcs, hds⟩ := id hs
  unfold Builtin.Slice.sliceApplied Builtin.Slice.sliceFields
  refine wpAny_bind (wpAny_bind (wpAny_field hos hds (x := .none) rfl (wpAny_bind (wpAny_field hos hds (x := .none) rfl (wpAny_bind (wpAny_field hos hds (x := vs) rfl (wpAny_pure ?_)))))))
  refine wpAny_bind (HT.slicePart_ ps ?_)
  show wpAny _ _ (if ((2 : Int) == 0) = true then _ else _) _ _ s
  rw [if_neg (by decide)]
  refine wpAny_bind (HT.slicePart_ .none (wpAny_bind (HT.slicePart_ .none (wpAny_bind (wpAny_pure ?_)))))
  show wpAny _ _ (pure ((0 : Int), (2 : Int), Builtin.Slice.slicePlaces 0 (n : Int) 2)) _ _ s
  rw [places_two]
  exact wpAny_pure h
theorem getItem_two {t sl : Addr} {items : Array Value} {vs : Value} {Q : Value → Shared → Prop} (ht : IsTup s.heap t items) (hs : s.heap.IsSliceOf sl .none .none vs) (ps : IsPart vs (some 2))
    (h : Q (.ref s.heap.objs.size) { s with heap := s.heap.push { cls := .type "tuple", data := .seq (twoL items.toList).toArray } })
    (hsz : items.size ≤ sizeLine) : wpAny (model prog w) A (getItem (.ref t) (.ref sl)) Q E s := by
  have hle := twoL_len items.toList
  have htake : sizeOk (.seq (twoL items.toList).toArray) := by
    show (twoL items.toList).length ≤ sizeLine
    rw [Array.length_toList] at hle
    exact Nat.le_trans hle hsz
  obtain ⟨os, hos, hcs, hds⟩ := id hs
  have hTs : s.TypeIs (.ref sl) "slice" := ⟨os, hos, hcs⟩
  unfold getItem
  try with_reducible refine wpAny_holding ?_
  first | refine wpAny_bind (wpAny_pure ?_) | skip
  refine wpAny_bind (wpAny_sequenceKey ht.typeIs (by decide) ?_)
  refine wpAny_bind (wpAny_callSpecial?_slot (name := Str.ofString "__getitem__") ht.typeIs PyProof.Rows.slot_tuple_getitem
    (wpAny_call_entry PyProof.Rows.slot_tuple_getitem ht.typeIs entry_tuple_getitem ?_ (args_tuple_getitem _ _)))
  show wpAny _ _ (Builtin.Tuple.tupleItemsOf (.ref t) >>= _) _ _ s
  refine wpAny_bind (tupleItemsOf_ ht ?_)
  refine wpAny_bind (wpAny_typeOf hTs ?_)
  rw [if_pos (by decide)]
  refine wpAny_bind (applied_two hs ps ?_)
  show wpAny _ _ (if ((0 : Int) == 0 && (2 : Int) == 1 && ((items.size + 1) / 2) == items.size) = true then _ else _) _ _ s
  have hno : ¬ (((0 : Int) == 0 && (2 : Int) == 1 && ((items.size + 1) / 2) == items.size) = true) := by simp
  have hpick : ((List.range ((items.size + 1) / 2)).filterMap fun (m : Nat) => items[((0 : Int) + (m : Int) * 2).toNat]?).toArray = (twoL items.toList).toArray := by
    have e : (fun (m : Nat) => items[((0 : Int) + (m : Int) * 2).toNat]?) = fun m => items.toList[m * 2]? := by
      funext m
      have : ((0 : Int) + (m : Int) * 2).toNat = m * 2 := by omega
      rw [this, Array.getElem?_toList]
    rw [e, ← twoL_pick, Array.length_toList]
  rw [if_neg hno, hpick]
  first
    | exact wpAny_bind (m := Builtin.Tuple.tupleExact _) (wpAny_newObj_type (wpAny_pure ⟨_, rfl, wpAny_pure h⟩) htake)
    | exact wpAny_bind (m := Builtin.Tuple.tupleExact _) (wpAny_newObj_type (wpAny_bind (wpAny_pure (wpAny_pure ⟨_, rfl, wpAny_pure h⟩))) htake)
    | exact wpAny_bind (wpAny_bind (m := Builtin.Tuple.tupleExact _) (wpAny_newObj_type (wpAny_pure (wpAny_pure ⟨_, rfl, wpAny_pure h⟩)) htake))
    | exact wpAny_bind (wpAny_bind (m := Builtin.Tuple.tupleExact _) (wpAny_newObj_type (wpAny_pure ⟨_, rfl, wpAny_pure h⟩) htake))
end
def tTwo (K : PySem.W.Frag) (te : TE) : TE := fun σ H Q => te σ H fun x H1 => ∃ a xs, x = .ref a ∧ SqT K H1 a xs ∧ ∀ p, H1 p = none → Q (.ref p) (upd H1 p (.tup (twoL xs)))
theorem pe_two {X : Cx} {e : Expr} {te : TE} {k : Nat} {p1 p3 pos : Pos} (he : PE X e te) : PE X (.Subscript e (.Slice none none (some (.Constant (.int 2) k p1)) p3) pos) (tTwo X.K te) := by
  refine ⟨fun pins s σ H Q I h => ?_⟩
  refine Subscript_ (thn (he.run pins s σ H _ I h) fun v s1 ⟨x, H1, I1, r1, q1⟩ => ?_)
  obtain ⟨a, xs, ex, hx, q⟩ := q1
  subst ex
  cases r1
  have hst : PO X (some (.Constant (.int 2) k p1)) (tPart (tC (.int 2))) := po_some pe_int
  refine wpAny_Slice (thn (po_none.run pins s1 σ H1 (fun o H2 => o = none ∧ H2 = H1) I1 ⟨rfl, rfl⟩) fun vl s2 ⟨l, H2, I2, pl, el, e2⟩ => ?_)
  subst el e2
  refine thn (po_none.run pins s2 σ H2 (fun o H3 => o = none ∧ H3 = H2) I2 ⟨rfl, rfl⟩) fun vu s3 ⟨u, H3, I3, pu, eu, e3⟩ => ?_
  subst eu e3
  refine thn (hst.run pins s3 σ H3 (fun o H4 => o = some 2 ∧ H4 = H3) I3 ⟨2, rfl, rfl, rfl⟩) fun vs s4 ⟨o, H4, I4, ps, eo, e4⟩ => ?_
  subst eo e4
  cases pl
  cases pu
  have I5 : Inv X pins σ H4 { s4 with heap := s4.heap.push { cls := .type "slice", data := .fields #[.none, .none, vs] } } := I4.kept (t' := s4.toks) fun b ob q => Heap.get?_push_of_some _ q
  obtain ⟨its, r, ht, hz⟩ := I5.tuple hx
  have hlen := r.length
  show wpAny (model X.prog X.w) X.A (subscriptTail e (.Slice none none (some (.Constant (.int 2) k p1)) p3) (.ref a) (.ref s4.heap.objs.size)) (EP X pins σ Q) X.xe { s4 with heap := s4.heap.push { cls := .type "slice", data := .fields #[.none, .none, vs] } }
  refine tail_any (ops := [.ref a, .ref s4.heap.objs.size]) ht.typeIs (PyProof.Rows.slot_tuple_getitem.lookup) ?_ (by with_unfolding_all rfl)
  refine getItem_two ht (Heap.IsSliceOf.new _ .none .none vs) ps ?_ (by rw [List.size_toArray]; omega)
  refine ⟨.ref _, _, I5.laid (t' := s4.toks) (o := .tup (twoL xs)) (fun b ob q => Heap.get?_push_of_some _ q) (Nat.le_refl _) ?_, rfl, q _ (I5.hok.fresh (Nat.le_refl _))⟩
  exact ⟨Nat.le_trans (twoL_len xs) hz, _, twoL_vals r, IsTup.new _ _⟩
end L2.Mini
set_option Elab.async false
set_option linter.all false
set_option maxRecDepth 100000
set_option maxHeartbeats 1000000
/-! Mini: list(zip(a, b)), tuple(reversed(a)). -/
namespace L2.Mini
open PySem PySem.Spec PyProof.Rows
section
variable {G : Gx} {W : WX} {X : Cx} [KEq G X.K] [WEq G X.w]
theorem refs_succ (b n : Nat) : ((List.range (n + 1)).map fun j => V.ref (b + j)) = V.ref b :: ((List.range n).map fun j => V.ref (b + 1 + j)) := by
  rw [List.range_succ_eq_map, List.map_cons, List.map_map]
  congr 1
  apply List.map_congr_left
  intro j _
  exact congrArg V.ref (Nat.add_right_comm b j 1)
theorem lay_pairs : ∀ (xs ys : List Mini.D) (us ws : List V) (s : Sx) (b : Nat), REL G s → s.RVs G xs us → s.RVs G ys ws → (∀ c : Nat, b ≤ c → s.H c = none) →
    ∃ s' : Sx, s'.H = updT s.H b (us.zip ws) ∧ s'.h = s.h ∧ TR s s' ∧ REL G s' ∧ s'.RVs G (zipD xs ys) ((List.range (us.zip ws).length).map fun j => V.ref (b + j))
  | [], ys, us, ws, s, b, R, r1, r2, _ => by
    cases (show us = [] from r1)
    exact ⟨s, rfl, rfl, TR.refl s, R, (by cases ys <;> rfl)⟩
  | x :: xs, [], us, ws, s, b, R, r1, r2, _ => by
    cases (show ws = [] from r2)
    refine ⟨s, by rw [List.zip_nil_right]; rfl, rfl, TR.refl s, R, ?_⟩
    rw [List.zip_nil_right]
    rfl
  | x :: xs, y :: ys, us, ws, s, b, R, ⟨u, us', e1, a1, b1⟩, ⟨w, ws', e2, a2, b2⟩, hf => by
    subst e1; subst e2
    have hn := hf b (Nat.le_refl b)
    have t := TR.lay (o := .tup [u, w]) R hn
    have R1 := R.lay (o := .tup [u, w]) hn
    obtain ⟨s', h1, h2, h3, h4, h5⟩ := lay_pairs xs ys us' ws' (s.lay b (.tup [u, w])) (b + 1) R1 (RVs.mono t b1) (RVs.mono t b2) (fun c hc => by
      show upd s.H b _ c = none
      rw [upd_ne (Nat.ne_of_gt (Nat.lt_of_succ_le hc))]
      exact hf c (Nat.le_of_succ_le hc))
    refine ⟨s', h1, h2, t.trans h3, h4, ?_⟩
    show s'.RVs G (.tup [x, y] :: zipD xs ys) ((List.range ((us'.zip ws').length + 1)).map fun j => V.ref (b + j))
    rw [refs_succ]
    refine ⟨V.ref b, _, rfl, RV.mono h3 ?_, h5⟩
    refine ⟨b, [u, w], rfl, .inl upd_same, fun h => R.fresh hn h, ⟨u, [w], rfl, RV.mono t a1, ⟨w, [], rfl, RV.mono t a2, rfl⟩⟩⟩
theorem zipD_len2 : ∀ (xs ys : List Mini.D), (zipD xs ys).length = min xs.length ys.length
  | [], ys => by cases ys <;> simp [zipD]
  | x :: xs, [] => by simp [zipD]
  | x :: xs, y :: ys => by
    show (zipD xs ys).length + 1 = _
    rw [zipD_len2 xs ys, List.length_cons, List.length_cons]
    omega
theorem snd_lzip (hc : X.calm = true) {mk : Bool} {a b : Expr} {p p2 pos pos2 : Pos} {ma mb : En → Hm → Res Mini.D} (hg : Gl X "list") (hm : X.mg "list" = none) (hg2 : Gl X "zip") (hm2 : X.mg "zip" = none) (hn : noStar1 a = true) (hn2 : noStar1 b = true) (ha : PE X a (rdE G W ma)) (hb : PE X b (rdE G W mb)) :
    PE X (.Call (.Name "list" p) [.Call (.Name "zip" p2) [a, b] [] pos2] [] pos) (rdE G W fun ρ h => (ma ρ h).bind fun x h => (mb ρ h).bind fun y h => lzipD mk x y h) :=
  PE.imp (pe_listZip hc hg hm hg2 hm2 (pa_cons ha (pa_cons hb pa_nil (star_cons hn2 _ _)) (star_cons hn _ _)) (star_cons hn _ _) (back_any (by rw [List.all_cons, hn2]; rfl))) fun σ H Q ⟨s, ρ, e, R, ev, p⟩ => by
    subst e
    refine ⟨s, ρ, rfl, R, ev, (Post.bind p).imp fun v H1 ⟨s1, d, e1, t1, R1, q1, p1⟩ => ?_⟩
    subst e1
    refine ⟨s1, ρ, rfl, R1, ev.mono t1, (Post.bind p1).imp fun u H2 ⟨s2, d2, e2, t2, R2, q2, p2⟩ => ?_⟩
    subst e2
    have q1' := RV.mono t2 q1
    replace p2 : Post G W σ (rV G) s2 (lzipD mk d d2 s2.h) Q := p2
    unfold lzipD at p2
    split at p2
    · rename_i xs ys hx hy
      obtain ⟨pa, us, rfl, hr, r⟩ := getL_rd X.K R2 q1' hx
      obtain ⟨pb, ws, rfl, hr2, r2⟩ := getL_rd X.K R2 q2 hy
      refine ⟨pa, pb, us, ws, rfl, hr, hr2, fun S hf => ?_⟩
      obtain ⟨s3, h1, h2, h3, h4, h5⟩ := lay_pairs xs ys us ws s2 (S + 1) R2 r r2 (fun c hc => hf c (Nat.le_of_succ_le hc))
      rw [← h1]
      have hS : s3.H S = none := by rw [h1, updT_old _ _ _ _ (Nat.lt_succ_self S)]; exact hf S (Nat.le_refl S)
      rw [← h2] at p2
      exact lay_lst h4 hS h5 (Post.shift h3 p2)
    · exact p2.elim
theorem RVs.rev {s : Sx} : ∀ {xs : List Mini.D} {us : List V}, s.RVs G xs us → s.RVs G xs.reverse us.reverse
  | [], _, h => by cases (show _ = [] from h); rfl
  | _ :: _, _, ⟨_, _, e, a, b⟩ => by
    subst e
    rw [List.reverse_cons, List.reverse_cons]
    exact RVs.append (RVs.rev b) (RVs.one a)
theorem snd_tupRev (hc : X.calm = true) {a : Expr} {p p2 pos pos2 : Pos} {ma : En → Hm → Res Mini.D} (hg : Gl X "tuple") (hm : X.mg "tuple" = none) (hg2 : Gl X "reversed") (hm2 : X.mg "reversed" = none) (hn : noStar1 a = true) (ha : PE X a (rdE G W ma)) :
    PE X (.Call (.Name "tuple" p) [.Call (.Name "reversed" p2) [a] [] pos2] [] pos) (rdE G W fun ρ h => (ma ρ h).bind fun x h => tupRevD x h) :=
  PE.imp (RT.pe_tupRev hc hg hm hg2 hm2 ha (star_cons hn _ _)) fun σ H Q ⟨s, ρ, e, R, ev, p⟩ => by
    subst e
    refine ⟨s, ρ, rfl, R, ev, (Post.bind p).imp fun v H1 ⟨s1, d, e1, t1, R1, q1, p1⟩ => ?_⟩
    subst e1
    replace p1 : Post G W σ (rV G) s1 (tupRevD d s1.h) Q := p1
    unfold tupRevD at p1
    split at p1
    · rename_i xs hx
      obtain ⟨pa, us, rfl, hr, r⟩ := getL_rd X.K R1 q1 hx
      exact ⟨pa, us, rfl, hr, fun q hq => lay_tup R1 hq (RVs.rev r) p1⟩
    · exact p1.elim
theorem RVs.two {s : Sx} : ∀ {xs : List Mini.D} {us : List V}, s.RVs G xs us → s.RVs G (twoL xs) (twoL us)
  | [], us, h => by cases (show us = [] from h); exact rfl
  | [x], us, ⟨u, r, e, a, b⟩ => by
    subst e
    cases (show r = [] from b)
    exact ⟨u, [], rfl, a, rfl⟩
  | x :: y :: xs, us, ⟨u, r, e, a, u2, r2, e2, a2, b⟩ => by
    subst e; subst e2
    exact ⟨u, twoL r2, rfl, a, RVs.two b⟩
theorem snd_two {a : Expr} {k : Nat} {p1 p3 pos : Pos} {ma : En → Hm → Res Mini.D} (ha : PE X a (rdE G W ma)) :
    PE X (.Subscript a (.Slice none none (some (.Constant (.int 2) k p1)) p3) pos) (rdE G W fun ρ h => (ma ρ h).bind fun x h => twoD x h) :=
  PE.imp (pe_two ha) fun σ H Q ⟨s, ρ, e, R, ev, p⟩ => by
    subst e
    refine ⟨s, ρ, rfl, R, ev, (Post.bind p).imp fun v H1 ⟨s1, d, e1, t1, R1, q1, p1⟩ => ?_⟩
    subst e1
    replace p1 : Post G W σ (rV G) s1 (twoD d s1.h) Q := p1
    unfold twoD at p1
    split at p1
    · obtain ⟨q, us, e4, h, k, r⟩ := q1
      exact ⟨q, us, e4, .inl h, fun p' hp => lay_tup R1 hp (RVs.two r) p1⟩
    · exact p1.elim
end
end L2.Mini
set_option Elab.async false
set_option linter.all false
set_option maxRecDepth 100000
set_option maxHeartbeats 1000000
/-! Mini: several except clauses, with or without a name. -/
namespace L2.Mini
open PySem PySem.Spec PyProof.Rows
/-- a clause: its class, its name's slot, what its suite promises -/
structure Clz where
  c : Value
  i : Option Nat
  ts : Addr → Value → Option Addr → TS
def offD (D : Ends) (i : Nat) : Ends where
  nx := fun σ H => D.nx (σ.set i none) H
  rt := D.rt
  bk := fun σ H => D.bk (σ.set i none) H
  ct := fun σ H => D.ct (σ.set i none) H
def Clz.go (q : Clz) (a : Addr) (cls : Value) (d : Option Addr) : TS := fun D σ H => match q.i with
  | none => q.ts a cls d D σ H
  | some i => q.ts a cls d (offD D i) (σ.set i (some (.ref a))) H
def wHds (K : PySem.W.Frag) (Wout : WX) (D : Ends) : List Clz → WX
  | [] => Wout
  | q :: r => fun cls d σ H => ∃ b, PySem.W.exmOne K cls q.c = some b ∧ (b = true → ∀ a, H a = none → q.go a cls d D σ H) ∧ (b = false → wHds K Wout D r cls d σ H)
def ClzOk (X : Cx) (nm : Option Str) (su : List Stmt) (q : Clz) : Prop :=
  (match q.i, nm with
    | none, none => True
    | some i, some n => X.N[i]? = some n ∧ X.env.kindOf n = some .local
    | _, _ => False) ∧
  ∀ (a : Addr) (oe : Obj) (cls : Value) (d : Option Addr) (pn : List (Addr × Obj)), Zc cls d oe → (∃ vs, oe.data = .fields vs) → PSs (X.suite a ((a, oe) :: pn)) su (q.ts a cls d)
inductive ClzsOk (X : Cx) : List ExceptHandler → List Clz → Prop
  | nil : ClzsOk X [] []
  | cons {x : Str} {q : Clz} {nm : Option Str} {b0 : Stmt} {su : List Stmt} {p1 p2 : Pos} {hs : List ExceptHandler} {l : List Clz} (hn : Names X x q.c) (ho : ClzOk X nm (b0 :: su) q) (r : ClzsOk X hs l) :
      ClzsOk X (.ExceptHandler (some (.Name x p1)) nm (b0 :: su) p2 :: hs) (q :: l)
section
variable {X : Cx} {body : List Stmt} {hd0 : ExceptHandler} {hds : List ExceptHandler} {l : List Clz} {pos : Pos} {tb : WX → TS} {Wo : WX}
theorem ps_try_hs (st : X.stack = X.env :: X.outer) (fr : X.env.frame = some X.env.locals) (nd : X.N.Nodup) (tk : Takes X Wo)
    (hb : ∀ (W : WX) (pn : List (Addr × Obj)) (xe : Value → Shared → Prop), Takes (X.tr pn xe) W → PassesOwn (model X.prog X.w) X.A X.env xe → PSs (X.tr pn xe) body (tb W))
    (hh : ClzsOk X (hd0 :: hds) l) : PS X (.Try body (hd0 :: hds) [] [] pos) (fun D σ H => tb (wHds X.K Wo D l) D σ H) := by
  refine ⟨fun pins s0 σ H D I0 h0 => ?_⟩
  have k0 := I0.ok
  have hA : X.A.frames = some (X.env :: X.outer) := by rw [k0.frames, st]
  refine wpAny_Try_except ?_
  have hbr := hb (wHds X.K Wo D l) (X.pn ++ pins) (fun e t1 => wpAny (model X.prog X.w) X.A (noteFrame e X.env) (fun _ t2 => wpAny (model X.prog X.w) X.A (setFlight e none) (fun _ t3 =>
    wpAny (model X.prog X.w) X.A (handleBy e X.env (hd0 :: hds)) (SP X pins D) X.xe t3) X.xe t2) X.xe t1)
  refine wpAny_mono ((hbr (fun u t xx => ?_) PassesOwn.looking).run [] s0 σ H D (I0.toTry _) h0) (fun f t1 g => ?_) (fun e t1 he => he)
  · obtain ⟨a, B, tI, pinz, σ1, H1, cls, d, rfl, JJ, nb, up, sky, na, os, ag, w⟩ := xx
    have J := JJ.ofTry k0
    have sk : Sky B (X.env :: X.outer) a (Zc cls d) X.env.locals t.heap := by rw [← st]; exact sky
    show wpAny (model X.prog X.w) X.A (noteFrame (.ref a) X.env) _ _ _
    refine Sky.land Zc.steady hA fr sk fun g3 fly u3 => ?_
    have J3 : Inv X pins σ1 H1 { t with heap := g3 } := J.landed nb fly.1 (up.trans u3) os ag
    obtain ⟨ob3, ws3, at3, zc3, da3⟩ := fly.there
    have notF : a ∉ frs (X.env :: X.outer) := fun hm => by
      obtain ⟨_, o2, e2, nf⟩ := fly.2.2.1.mem hm
      rw [at3] at e2; cases e2
      exact nf _ da3
    have aL : a ≠ X.env.locals := fun z => notF (List.mem_filterMap.mpr ⟨X.env, List.mem_cons_self, by rw [fr, z]⟩)
    have aF : a ∉ X.fs := fun hm => by
      obtain ⟨e, he, q⟩ := List.mem_filterMap.mp hm
      exact notF (List.mem_filterMap.mpr ⟨e, List.mem_cons_of_mem _ he, q⟩)
    have S3 := J3.suite at3 da3 na aL aF
    have LT : PySem.W.Looks (model X.prog X.w) g3 (typeOf (.ref a)) cls := fun A Q E s k q => wpAny_typeOf_ref (k _ _ at3) (by rw [zc3.1]; exact q)
    have walk : ∀ {hs2 : List ExceptHandler} {l2 : List Clz}, ClzsOk X hs2 l2 → wHds X.K Wo D l2 cls d σ1 H1 →
        wpAny (model X.prog X.w) X.A (handleBy (.ref a) X.env hs2) (SP X pins D) X.xe { t with heap := g3 } := by
      intro hs2 l2 hk
      induction hk with
      | nil =>
        intro w
        refine wpAny_handleBy_nil ?_
        obtain ⟨_, _, _, oe, vs, T, oT, _, he, hz, hd, h1, hr⟩ := id fly
        unfold PySem.passOn
        refine wpAny_bind (wpAny_field he hd h1 ?_)
        rw [if_neg (show ¬ ((Value.ref T == Value.none) = true) from by simp)]
        have last : wpAny (model X.prog X.w) X.A (setFlight (.ref a) X.env.frame) (fun _ t4 => wpAny (model X.prog X.w) X.A (throw (.ref a) : Sem Flow) (SP X pins D) X.xe t4) X.xe { t with heap := g3 } := by
          rw [fr]
          refine HandSPX.setFlight_upZ fly fun g4 y4 u4 => wpAny_throw (tk _ _ ?_)
          exact ⟨a, B, tI, pins, σ1, H1, cls, d, rfl, J, nb, (up.trans u3).trans u4, .inr (.inr (by rw [st]; exact y4)), na, os, ag, w⟩
        first
          | exact wpAny_bind (wpAny_pure (wpAny_bind last))
          | exact wpAny_bind last
      | @cons x q nm b0 su p1 p2 hs3 l3 hn ho r ih =>
        intro w
        obtain ⟨b, eb, yes, no⟩ := w
        refine wpAny_handleBy_cons (codeAny_handlers_test ?_) (by intro q; cases q)
        have LM := PySem.W.exm_one (M := model X.prog X.w) (J3.kIn) LT eb
        have tst : ∀ {Q E : Value → Shared → Prop}, Q q.c { t with heap := g3 } → wpAny (model X.prog X.w) (X.A.mark (some (.ref a))) (eval (.Name x p1) X.env) Q E { t with heap := g3 } := fun {Q E} z => by
          obtain ⟨hg, hdb, hm | ⟨hm, hv, hnn⟩⟩ := hn
          · exact ld_glob (X := X.suite a ((a, ob3) :: (X.pn ++ pins))) S3 hg hm z hdb
          · exact ld_blt (X := X.suite a ((a, ob3) :: (X.pn ++ pins))) S3 hg hm hv z hnn hdb
        refine tst (LM.here ?_)
        cases b with
        | false => exact ih (no rfl)
        | true =>
          replace yes := yes rfl a na
          obtain ⟨hsl, hsu⟩ := ho
          unfold Clz.go at yes
          cases hqi : q.i with
          | none =>
            rw [hqi] at hsl yes
            cases nm with
            | some n => exact hsl.elim
            | none =>
              refine codeAny_handlers_suite ?_
              refine HandSPX.lands_againZ fly fun g4 fl4 u4 => ?_
              have J4 : Inv X pins σ1 H1 { t with heap := g4 } := J.landed nb fl4.1 ((up.trans u3).trans u4) os ag
              obtain ⟨ob4, ws4, at4, zc4, da4⟩ := fl4.there
              have S4 := J4.suite at4 da4 na aL aF
              refine wpAny_mono ((hsu a ob4 cls d (X.pn ++ pins) zc4 ⟨_, da4⟩).run [] _ _ H1 _ S4 yes) (fun f t6 g => ?_) (fun _ _ z => False.elim z)
              cases f with
              | ret u =>
                obtain ⟨v6, σ6, H6, S6, r6, q6⟩ := g
                exact ⟨_, _, _, S6.unsuite k0, r6, q6⟩
              | next | brk | cont =>
                obtain ⟨σ6, H6, S6, q6⟩ := g
                exact ⟨_, _, S6.unsuite k0, q6⟩
          | some i =>
            rw [hqi] at hsl yes
            cases nm with
            | none => exact hsl.elim
            | some n =>
              obtain ⟨hi, hln⟩ := hsl
              have hloc : Loc X.env.scope n := .inl hln
              refine codeAny_handlers_suite_as ?_
              refine HandSPX.lands_againZ fly fun g4 fl4 u4 => ?_
              have J4 : Inv X pins σ1 H1 { t with heap := g4 } := J.landed nb fl4.1 ((up.trans u3).trans u4) os ag
              obtain ⟨ob4, ws4, at4, zc4, da4⟩ := fl4.there
              have S4 := J4.suite at4 da4 na aL aF
              refine store_ok (X := X.suite a ((a, ob4) :: (X.pn ++ pins))) (v := .ref a) S4 nd hi hloc rfl (fun t5 S5 => ?_) (.inr hln)
              refine wpAny_mono ((hsu a ob4 cls d (X.pn ++ pins) zc4 ⟨_, da4⟩).run [] t5 _ H1 _ S5 yes) (fun f t6 g => ?_) (fun _ _ z => False.elim z)
              have off : ∀ {σ6 : St} {H6 : Hp} {Q : Shared → Prop}, Inv (X.suite a ((a, ob4) :: (X.pn ++ pins))) [] σ6 H6 t6 → (∀ t7, Inv X pins (σ6.set i none) H6 t7 → Q t7) →
                  wpAny (model X.prog X.w) X.A (do bindName X.env n .none; unbindBehindTheSuite X.env n p2) (fun _ t7 => Q t7) X.xe t6 := fun {σ6 H6 Q} S6 hq => gone_ok (S6.unsuite k0) nd hi hln hq
              cases f with
              | ret u =>
                obtain ⟨v6, σ6, H6, S6, r6, q6⟩ := g
                exact off S6 fun t7 J7 => ⟨_, _, _, J7, r6, q6⟩
              | next | brk | cont =>
                obtain ⟨σ6, H6, S6, q6⟩ := g
                exact off S6 fun t7 J7 => ⟨_, _, J7, q6⟩
    exact walk hh w
  · cases f with
    | next =>
      obtain ⟨σ1, H1, J1, q⟩ := g
      exact wpAny_execs_nil ⟨σ1, H1, J1.ofTry k0, q⟩
    | ret u =>
      obtain ⟨v, σ1, H1, J1, r, q⟩ := g
      exact ⟨v, σ1, H1, J1.ofTry k0, r, q⟩
    | brk | cont =>
      obtain ⟨σ1, H1, J1, q⟩ := g
      exact ⟨σ1, H1, J1.ofTry k0, q⟩
end
/-- a clause of the IR -/
structure Clm where
  cs : List Nat
  slot : Option Nat
  mh : Nat → List (Nat × D) → En → Hm → SRes
def hdF (C : Calls) (c : Nat) (fs : List (Nat × D)) : List Clm → En → Hm → SRes
  | [], ρ, h => .exc c fs ρ h
  | q :: r, ρ, h => catchS C c fs q.cs q.slot (q.mh c fs) (hdF C c fs r) ρ h
section
variable {G : Gx} {W : WX} {X : Cx} [KEq G X.K] [WEq G X.w]
/-- one clause: class number, slot -/
def ClmOk (X : Cx) (G : Gx) (C : Calls) (q : Clm) (x : ExceptHandler) : Prop :=
  ∃ (d : Nat) (nm : Option Str) (b0 : Stmt) (su : List Stmt) (p1 p2 : Pos), x = .ExceptHandler (some (.Name (G.cn d) p1)) nm (b0 :: su) p2 ∧ q.cs = [d] ∧
    (∀ c, C.xok c = true → C.xok d = true → PySem.W.exmOne X.K (.ref (G.ca c)) (.ref (G.ca d)) = some (C.sub c d)) ∧ Names X (G.cn d) (.ref (G.ca d)) ∧
    (match q.slot, nm with
      | none, none => True
      | some i, some n => X.N[i]? = some n ∧ X.env.kindOf n = some .local
      | _, _ => False) ∧
    SuiteOk X G C q.slot q.mh (b0 :: su)
inductive ClmsOk (X : Cx) (G : Gx) (C : Calls) : List Clm → List ExceptHandler → Prop
  | nil : ClmsOk X G C [] []
  | cons {q : Clm} {x : ExceptHandler} {l : List Clm} {xs : List ExceptHandler} (h : ClmOk X G C q x) (r : ClmsOk X G C l xs) : ClmsOk X G C (q :: l) (x :: xs)
def Clm.z (G : Gx) (C : Calls) (q : Clm) : Clz where
  c := .ref (G.ca (q.cs.headD 0))
  i := q.slot
  ts := fun a cls dx => fun D σ H => ∃ (c : Nat) (fs : List (Nat × Mini.D)), cls = .ref (G.ca c) ∧ C.xok c = true ∧ (fs = [] → dx = none) ∧ rdS (G.wx (q.slot.map fun i => ((i, V.ref a), fs, dx))) WF (q.mh c fs) D σ H
theorem clms_ok {C : Calls} {l : List Clm} {xs : List ExceptHandler} (h : ClmsOk X G C l xs) : ClzsOk X xs (l.map (Clm.z G C)) := by
  induction h with
  | nil => exact .nil
  | @cons q x l xs h r ih =>
    obtain ⟨d, nm, b0, su, p1, p2, rfl, hcs, _, hn, hsl, hsu⟩ := h
    have ec : (q.z G C).c = .ref (G.ca d) := by unfold Clm.z; rw [hcs]; rfl
    refine .cons (q := q.z G C) (by rw [ec]; exact hn) ⟨hsl, fun a oe cls dx pn hz hv => ⟨fun pins s σ H D I hh => ?_⟩⟩ ih
    obtain ⟨c, fs, e1, e2, e3, r⟩ := hh
    subst e1
    exact (hsu c fs a oe dx pn e2 hz hv e3).run pins s σ H D I r
theorem snd_try_many {C : Calls} {l : List Clm} {x0 : ExceptHandler} {xs : List ExceptHandler} {body : List Stmt} {pos : Pos} {mb : En → Hm → SRes} (hxs : G.exs = none)
    (hs : X.stack = X.env :: X.outer) (hf : X.env.frame = some X.env.locals) (hN : X.N.Nodup) (tk : Takes X W)
    (hb : ∀ (W : WX) (pn : List (Addr × Obj)) (xe : Value → Shared → Prop), Takes (X.tr pn xe) W → PassesOwn (model X.prog X.w) X.A X.env xe → PSs (X.tr pn xe) body (rdS G W mb))
    (hl : ClmsOk X G C l (x0 :: xs)) :
    PS X (.Try body (x0 :: xs) [] [] pos) (rdS G W fun ρ h => tryS (mb ρ h) fun c fs ρ h => hdF C c fs l ρ h) := by
  refine PS.imp (ps_try_hs (tb := fun W => rdS G W mb) hs hf hN tk hb (clms_ok hl)) fun D σ H hh => ?_
  obtain ⟨s, ρ, e, R, ev, p0⟩ := hh
  subst e
  refine ⟨s, ρ, rfl, R, ev, ?_⟩
  dsimp only at p0
  cases e1 : mb ρ s.h with
  | ok f ρ1 h1 => rw [e1] at p0; exact p0
  | stuck => rw [e1] at p0; exact p0
  | exc c fs ρ1 h1 =>
    rw [e1] at p0
    unfold tryS at p0
    dsimp only at p0
    intro s1 σ1 dx eh t1 R1 ev1 xr
    subst eh
    replace p0 := PostS.shift t1 p0
    clear hb e1
    generalize (x0 :: xs) = ys at hl
    induction hl with
    | nil => exact p0 s1 σ1 dx rfl (TR.refl _) R1 ev1 xr
    | @cons q x l' xs' h1 r ih =>
      obtain ⟨d, nm, b0, su, p1, p2, rfl, hcs, hx, hn, hsl, hsu⟩ := h1
      unfold hdF catchS at p0
      rw [hcs] at p0
      split at p0
      · rename_i hok
        simp only [Bool.and_eq_true, List.all_cons, List.all_nil, Bool.and_true] at hok
        have ec : (q.z G C).c = .ref (G.ca d) := by unfold Clm.z; rw [hcs]; rfl
        refine ⟨C.sub c d, by rw [ec]; exact hx c hok.1 hok.2, fun hsub a ha => ?_, fun hsub => ?_⟩
        · have e5 : ([d].any fun d => C.sub c d) = true := by simp [hsub]
          rw [e5, if_pos rfl] at p0
          have hdx : fs = [] → dx = none := fun hfs => by
            rcases xr with x | ⟨dd, us, nf, _⟩
            · exact x.2
            · exact absurd hfs nf
          unfold Clm.z Clz.go
          dsimp only
          cases hq : q.slot with
          | some i =>
            rw [hq] at p0
            dsimp only at p0 ⊢
            split at p0
            · rename_i hil
              refine ⟨c, fs, rfl, hok.1, hdx, s1, ρ1.set i none, rfl, R1.wx, ev1.enter hxs hil xr, ?_⟩
              cases e6 : q.mh c fs (ρ1.set i none) s1.h with
              | ok f ρ2 h2 =>
                rw [e6] at p0
                intro s2 σ2 eh2 t2 R2 ev2
                have q := p0 s2 (σ2.set i none) eh2 t2 (R2.wx (e := G.exs)) (ev2.leave hxs)
                cases f with
                | next => exact q
                | brk => exact q
                | cont => exact q
                | ret dd => exact fun v rv => q v (RV.wx (G := G.wx (some ((i, V.ref a), fs, dx))) (e := G.exs) rv)
              | exc c2 fs2 ρ2 h2 => rw [e6] at p0; exact p0.elim
              | stuck => rw [e6] at p0; exact p0.elim
            · exact p0.elim
          | none =>
            rw [hq] at p0
            dsimp only at p0 ⊢
            refine ⟨c, fs, rfl, hok.1, hdx, s1, ρ1, rfl, R1.wx, ev1.enter0, ?_⟩
            cases e6 : q.mh c fs ρ1 s1.h with
            | ok f ρ2 h2 =>
              rw [e6] at p0
              intro s2 σ2 eh2 t2 R2 ev2
              have q := p0 s2 σ2 eh2 t2 (R2.wx (e := G.exs)) (ev2.leave0 hxs)
              cases f with
              | next => exact q
              | brk => exact q
              | cont => exact q
              | ret dd => exact fun v rv => q v (RV.wx (G := G.wx none) (e := G.exs) rv)
            | exc c2 fs2 ρ2 h2 => rw [e6] at p0; exact p0.elim
            | stuck => rw [e6] at p0; exact p0.elim
        · have e5 : ([d].any fun d => C.sub c d) = false := by simp [hsub]
          rw [e5, if_neg Bool.false_ne_true] at p0
          exact ih p0
      · exact p0.elim
end
end L2.Mini
set_option Elab.async false
set_option linter.all false
set_option maxRecDepth 100000
set_option maxHeartbeats 1000000
/-! Mini: raise of an own class with one field or two. -/
namespace L2.Mini
open PySem PySem.Spec PyProof.Rows
section
variable {G : Gx} {W : WX} {X : Cx} [KEq G X.K] [WEq G X.w]
/-- the dict of an exception that was made is laid -/
theorem raised_at {c : Nat} {s1 : Sx} {d : Addr} {fs : List (Nat × Mini.D)} {us : List (Str × V)} {ρ : En} {σ : St} {Dd : Ends} (R : REL G s1) (ev : EV G s1 ρ σ) (hd : s1.H d = none) (nf : fs ≠ []) (hu : ∀ f x, getF fs f = some x → ∃ u, us.lookup (G.nm f) = some u ∧ s1.RV G x u)
    (p : PostS G W s1 (.exc c fs ρ s1.h) Dd) : W (.ref (G.ca c)) (some d) σ (upd s1.H d (.xd us)) := by
  have t := TR.lay R (o := .xd us) hd
  have R2 := REL.lay R (o := .xd us) hd
  refine p (s1.lay d (.xd us)) σ (some d) rfl t R2 (ev.mono t) (.inr ⟨d, us, nf, rfl, upd_same, ?_, fun f x hf => ?_⟩)
  · rintro (h | ⟨n, nd, h, _⟩)
    · obtain ⟨o, k⟩ := R.exT d h
      rw [hd] at k; cases k
    · exact R.notin hd n h
  · obtain ⟨u, h1, h2⟩ := hu f x hf
    exact ⟨u, h1, RV.mono t h2⟩
theorem snd_raiseF {C : Calls} {kk c : Nat} {e : Expr} {es : List Expr} {m : En → Hm → Res (List Mini.D)} {p pos pos' : Pos} (xi : XiOk G C X.prog X.w X.K X.mg X.base kk c) (hr : Room (kk + 1) X.A) (hc : X.calm = true) (tk : Takes X W) (hg : Gl X (G.cn c)) (hd : (G.cn c == ("__debug__" : Str)) = false)
    (ha : PA X (e :: es) (rdA G W m)) (hst : (e :: es).all noStar1 = true) :
    PS X (.Raise (some (.Call (.Name (G.cn c) p) (e :: es) [] pos)) none pos') (rdS G W fun ρ h => onE ρ (m ρ h) fun xs h => raiseD C c xs ρ h) := by
  obtain ⟨hk, T, hg2, fI, fd, ps, iC, tI, hb, cases_⟩ := xi
  have hx : Passes (L2.CX X.prog X.w) X (fun _ _ _ => False) := passes_call tk fun _ _ _ _ h => h.elim
  have hroom : Room (1 + 1) X.A := hr.mono (by omega)
  have se : starEach (e :: es) X.env = (false, eval e X.env) :: starEach es X.env := by
    have := List.all_eq_true.mp hst e (List.mem_cons_self ..)
    exact star_cons this _ _
  have sp : (backTo pos (starEach es X.env)).any (·.1) = false := back_any (List.all_eq_true.mpr fun x hx => List.all_eq_true.mp hst x (List.mem_cons_of_mem _ hx))
  rcases cases_ with ⟨f, hf, F1⟩ | ⟨f, g, hf, hfg, F1⟩
  · refine PS.imp (ps_raise hc tk (pmk_oex (pos := pos) (p := p) (dvs := []) T iC tI F1 hroom hb .nil hx hg hg2 ha hd se sp)) fun D σ H ⟨s, ρ, e0, R, ev, p0⟩ => ?_
    subst e0
    dsimp only at p0
    refine ⟨s, ρ, rfl, R, ev, (p0.onE ev).imp fun vs H1 ⟨s1, xs, e1, t1, R1, rv, p1⟩ => ?_⟩
    subst e1
    unfold raiseD at p1
    rw [hf] at p1
    dsimp only at p1
    have hlen : xs.length = 1 := by
      by_cases h : [f].length = xs.length
      · exact h.symm
      · rw [if_neg h] at p1; exact p1.elim
    rw [if_pos (by rw [hlen]; rfl)] at p1
    match xs, hlen with
    | [x1], _ =>
      obtain ⟨u1, r, e2, rx, e3⟩ := rv
      cases (show r = [] from e3)
      subst e2
      refine ⟨by show 1 ≤ 1000; decide, fun a hna => ⟨a, u1, rfl, upd_same, fun d hdn hda => ?_⟩⟩
      have hdn' : s1.H d = none := by rwa [upd_ne hda] at hdn
      refine ⟨rfl, d, [(G.nm f, u1)], upd_same, by rw [upd_ne hda, upd_same], hdn', ?_⟩
      have hH : upd (del (upd (upd (upd s1.H a (exo a (G.ca c) none)) d (exd d [(G.nm f, u1)])) a (exo a (G.ca c) (some d))) a) d (.xd [(G.nm f, u1)]) = upd s1.H d (.xd [(G.nm f, u1)]) := by
        funext b
        by_cases hb1 : b = d
        · subst hb1; rw [upd_same, upd_same]
        · rw [upd_ne hb1, upd_ne hb1]
          by_cases hb2 : b = a
          · subst hb2; rw [del_same, hna]
          · rw [del_ne hb2, upd_ne hb2, upd_ne hb1, upd_ne hb2]
      rw [hH]
      refine raised_at R1 (ev.mono t1) hdn' (by simp) (fun f' x hf' => ?_) p1
      have : f' = f ∧ x1 = x := by
        unfold getF at hf'
        simp only [List.zip_cons_cons, List.lookup_cons] at hf'
        split at hf'
        · rename_i e; exact ⟨by simpa using e, by simpa using hf'⟩
        · simp at hf'
      obtain ⟨rfl, rfl⟩ := this
      exact ⟨u1, by simp [List.lookup], rx⟩
  · refine PS.imp (ps_raise hc tk (pmk_oex (pos := pos) (p := p) (dvs := []) T iC tI F1 hroom hb .nil hx hg hg2 ha hd se sp)) fun D σ H ⟨s, ρ, e0, R, ev, p0⟩ => ?_
    subst e0
    dsimp only at p0
    refine ⟨s, ρ, rfl, R, ev, (p0.onE ev).imp fun vs H1 ⟨s1, xs, e1, t1, R1, rv, p1⟩ => ?_⟩
    subst e1
    unfold raiseD at p1
    rw [hf] at p1
    dsimp only at p1
    have hlen : xs.length = 2 := by
      by_cases h : [f, g].length = xs.length
      · exact h.symm
      · rw [if_neg h] at p1; exact p1.elim
    rw [if_pos (by rw [hlen]; rfl)] at p1
    match xs, hlen with
    | [x1, x2], _ =>
      obtain ⟨u1, r, e2, rx, u2, r2, e3, ry, e4⟩ := rv
      cases (show r2 = [] from e4)
      subst e3
      subst e2
      refine ⟨by show 2 ≤ 1000; decide, fun a hna => ⟨a, u1, u2, rfl, upd_same, fun d hdn hda => ?_⟩⟩
      have hdn' : s1.H d = none := by rwa [upd_ne hda] at hdn
      refine ⟨rfl, d, [(G.nm g, u2), (G.nm f, u1)], by rw [upd_ne (Ne.symm hda), upd_same], upd_same, hdn', ?_⟩
      have hH : upd (del (upd (upd (upd (upd s1.H a (exo a (G.ca c) none)) d (exd d [(G.nm f, u1)])) a (exo a (G.ca c) (some d))) d (exd d [(G.nm g, u2), (G.nm f, u1)])) a) d (.xd [(G.nm g, u2), (G.nm f, u1)]) = upd s1.H d (.xd [(G.nm g, u2), (G.nm f, u1)]) := by
        funext b
        by_cases hb1 : b = d
        · subst hb1; rw [upd_same, upd_same]
        · rw [upd_ne hb1, upd_ne hb1]
          by_cases hb2 : b = a
          · subst hb2; rw [del_same, hna]
          · rw [del_ne hb2, upd_ne hb1, upd_ne hb2, upd_ne hb1, upd_ne hb2]
      rw [hH]
      refine raised_at R1 (ev.mono t1) hdn' (by simp) (fun f' x hf' => ?_) p1
      unfold getF at hf'
      simp only [List.zip_cons_cons, List.lookup_cons] at hf'
      have hne : ¬ G.nm f = G.nm g := fun z => hfg (G.inj f g z)
      split at hf'
      · rename_i e
        have e' : f' = f := by simpa using e
        subst e'
        cases hf'
        refine ⟨u1, ?_, rx⟩
        rw [lookup_put, if_neg hne, lookup_put, if_pos rfl]
      · split at hf'
        · rename_i e
          have e' : f' = g := by simpa using e
          subst e'
          cases hf'
          exact ⟨u2, by rw [lookup_put, if_pos rfl], ry⟩
        · simp at hf'
end
theorem tail_refs : ∀ l : List Value, PySem.W.excTail [.type "ValueError", .type "Exception", .type "BaseException", .type "object"] l = true → PySem.HandSPX.refsVE l = true
  | [], h => by
    rcases PySem.W.excTail_cases [] h with ⟨c, r, q, _⟩ | q
    · cases q
    · cases q
  | v :: l, h => by
    rcases PySem.W.excTail_cases (v :: l) h with ⟨c, r, q, h2⟩ | q
    · cases q
      exact tail_refs l h2
    · rw [q]
      exact beq_self_eq_true _
/-- what pmk_oex asks of the class -/
theorem oexC_of {K : PySem.W.Frag} {C : Addr} (q : PySem.W.excInitIn K C [.type "ValueError", .type "Exception", .type "BaseException", .type "object"] "ValueError.__new__" = true) (hd : PySem.W.hasDictIn K C = true) (sa : PySem.W.findIn K (.ref C) "__setattr__" = some (some (.builtin "object.__setattr__")))
    (exC : PySem.W.subIn K (.ref C) (.type "BaseException") = some true) (tyC : PySem.W.typeIn K (.ref C) = some (.type "type")) (kC : PySem.W.keepIn K (.ref C) = true) : OexC K C := by
  refine ⟨?_, sa, exC, tyC, kC⟩
  obtain ⟨cd0, hc0, hd0⟩ := PySem.W.any_some hd
  unfold PySem.W.excInitIn at q
  split at q
  · rename_i dd cd sl ho
    split at q
    · rename_i C' bm k0 k1 k2 k3 n k5 hm hs
      simp only [Bool.and_eq_true, beq_iff_eq, Bool.not_eq_true'] at q
      obtain ⟨⟨⟨e1, e2⟩, hdel⟩, ht⟩ := q
      subst e1; subst e2
      have hcd : cd0 = cd := by
        unfold PySem.W.clsIn at hc0
        rw [ho] at hc0
        exact (Option.some.inj hc0).symm
      subst hcd
      obtain ⟨nm, bs, mro, ns, qn, hdd, sn, sub, ab, col, del⟩ := cd0
      dsimp only at hm hdel hd0
      subst hm; subst hdel; subst hd0
      have hsl : sl = #[k0, k1, k2, k3, some (.builtin "ValueError.__new__"), k5] := by
        obtain ⟨l⟩ := sl
        simp only at hs
        rw [hs]
      subst hsl
      exact ⟨nm, qn, ns, bs, bm, sn, sub, ab, col, dd, k0, k1, k2, k3, k5, ho, tail_refs bm ht⟩
    · cases q
  · cases q
end L2.Mini
set_option Elab.async false
set_option linter.all false
set_option maxRecDepth 100000
set_option maxHeartbeats 1000000
/-! Mini, part 13: the check that ties the IR to the tree. -/
namespace L2.Mini
open PySem PySem.Spec PyProof.Rows

structure Ck where
  N : List Str
  sc : Scope
  fnb : Str → Bool
  hot : Bool
  nm : Nat → Str
  gn : Nat → Str
  cn : Nat → Str
  gk : Nat → Str
  gv : Nat → Option Cst
  has : Nat → Bool
  top : Nat → Bool
  ini : Nat → Bool
  /-- in a suite: the slot of the exception's name -/
  xsl : Option Nat
  xok : Nat → Bool
  /-- the class has fields and may be raised -/
  xi : Nat → Bool
  /-- within a comprehension -/
  deep : Bool
def biNames : List Str := ["ValueError", "len", "int", "str", "list", "tuple", "max", "min", "sum", "all", "sorted", "set", "zip", "isinstance", "range", "enumerate", "reversed", "bool"]
def okN (y : Str) : Bool := !(y == ("__debug__" : Str)) && !(y == ("__classdict__" : Str))
def visB (sc : Scope) (y : Str) : Bool := match sc.names.lookup y with
  | some .local => true | some .cell => true | some .free => true | _ => false
def glB (sc : Scope) (y : Str) : Bool := match sc.names.lookup y with
  | some .globalImplicit => true | _ => false
def locB (k : Ck) (y : Str) : Bool := match k.sc.names.lookup y with
  | some .local => true
  | some .cell => k.fnb y
  | _ => false
def Cst.c : Cst → Const
  | .non => .none | .bl b => .bool b | .int i => .int i | .str x => .str x
def plainT : Expr → Bool
  | .Name _ _ => true | .Call _ _ _ _ => true | .Attribute _ _ _ => true | .Subscript _ _ _ => true | .Constant _ _ _ => true
  | _ => false
def plainIxB : Expr → Bool
  | .Slice _ _ _ _ => false
  | _ => true
def foldOk : Expr → Bool
  | .Set _ _ _ => false
  | _ => true
def isTupX : Expr → Bool
  | .Tuple _ _ _ => true
  | _ => false
mutual
/-- it may stand as a test -/
def testE : E → Expr → Bool
  | .no, _ => true
  | .cmp _ _ _, _ => true
  | .chain _ _ _ _ _, _ => true
  | .not a, x => match x with
    | .UnaryOp _ l _ => testE a l
    | _ => false
  | .bool _ es, x => match x with
    | .BoolOp _ vs _ => testEs es vs
    | _ => false
  | _, x => plainT x
def testEs : List E → List Expr → Bool
  | [], [] => true
  | e :: es, x :: xs => testE e x && testEs es xs
  | _, _ => false
end
def tgsOk (k : Ck) : List Nat → List Expr → Bool
  | [], [] => true
  | i :: is, .Name y _ :: es => decide (k.N[i]? = some y) && locB k y && tgsOk k is es
  | _, _ => false
def tgOk (k : Ck) : Pt → Expr → Bool
  | .one i, .Name y _ => decide (k.N[i]? = some y) && locB k y
  | .tup is, .Tuple es _ _ => !k.hot && tgsOk k is es
  | _, _ => false
def offB (k : Ck) (is : List Nat) : Bool := is.all fun i => !decide (k.xsl = some i)
def blkK (k : Ck) (scope : Scope) : Ck := { k with sc := relS scope k.sc, fnb := fun x => scope.names.lookup x == some .cell, deep := true }
def ownOf (k : Ck) (own : List Nat) : List (Str × Nat) := own.map fun i => (k.N.getD i "", i)
mutual
def chkE (k : Ck) : E → Expr → Bool
  | .no, _ => true
  | .var i, x => match x with
    | .Name y _ => decide (k.N[i]? = some y) && visB k.sc y && okN y
    | _ => false
  | .con c, x => match x with
    | .Constant kc _ _ => decide (kc = c.c)
    | _ => false
  | .glob n i, x => match x with
    | .Name y _ => decide (y = k.gk n) && glB k.sc y && decide (k.gv n = some (.int i)) && okN y
    | _ => false
  | .globT n t, x => match x with
    | .Name y _ => decide (y = k.gk n) && glB k.sc y && decide (k.gv n = some (.str t)) && okN y
    | _ => false
  | .bin op _ a b, x => match x with
    | .BinOp l o r _ => decide (o = op.op) && chkE k a l && chkE k b r
    | _ => false
  | .neg a, x => match x with
    | .UnaryOp .USub l _ => chkE k a l
    | _ => false
  | .inv a, x => match x with
    | .UnaryOp .Invert l _ => chkE k a l
    | _ => false
  | .cmp op a b, x => match x with
    | .Compare l [o] [r] _ => decide (o = op.op) && !behindInMarks op.op r && chkE k a l && chkE k b r
    | _ => false
  | .chain o1 o2 a b c, x => match x with
    | .Compare l [p1, p2] [m, r] _ => decide (p1 = o1.op) && decide (p2 = o2.op) && !lastMarks [o1.op, o2.op] [m, r] && chkE k a l && chkE k b m && chkE k c r
    | _ => false
  | .bool and es, x => match x with
    | .BoolOp o vs _ => decide (o = if and then .And else .Or) && !es.isEmpty && chkEs k es vs
    | _ => false
  | .not a, x => match x with
    | .UnaryOp .Not l _ => chkE k a l
    | _ => false
  | .ife c a b, x => match x with
    | .IfExp t l r _ => chkE k c t && testE c t && chkE k a l && chkE k b r
    | _ => false
  | .tup es, x => match x with
    | .Tuple xs _ _ => xs.all noStar1 && chkEs k es xs
    | _ => false
  | .lst _ es, x => match x with
    | .List xs _ => xs.all noStar1 && chkEs k es xs
    | _ => false
  | .dic, x => match x with
    | .Dict [] [] _ => true
    | _ => false
  | .disp es, x => match x with
    | .Dict ks vs _ => ks.all (·.isSome) && decide (ks.length = vs.length) && decide (ks ≠ []) && decide (ks.length ≤ 15) && chkDD k es ks vs
    | _ => false
  | .ditn, x => match x with
    | .Dict [] [] _ => true
    | _ => false
  | .dit1 _ _, _ => false
  | .sdit _ _, _ => false
  | .lrng _ a, x => match x with
    | .Call (.Name y _) [.Call (.Name z _) [l] [] _] [] _ => !k.hot && decide (y = "list") && glB k.sc "list" && decide (z = "range") && glB k.sc "range" && noStar1 l && chkE k a l
    | _ => false
  | .lset a, x => match x with
    | .Call (.Name y _) [.Call (.Name z _) [l] [] _] [] _ => !k.hot && decide (y = "len") && glB k.sc "len" && decide (z = "set") && glB k.sc "set" && noStar1 l && chkE k a l
    | _ => false
  | .lzip _ a b, x => match x with
    | .Call (.Name y _) [.Call (.Name z _) [l, r] [] _] [] _ => !k.hot && decide (y = "list") && glB k.sc "list" && decide (z = "zip") && glB k.sc "zip" && noStar1 l && noStar1 r && chkE k a l && chkE k b r
    | _ => false
  | .two a, x => match x with
    | .Subscript l (.Slice none none (some (.Constant (.int 2) _ _)) _) _ => chkE k a l
    | _ => false
  | .tupRev a, x => match x with
    | .Call (.Name y _) [.Call (.Name z _) [l] [] _] [] _ => !k.hot && decide (y = "tuple") && glB k.sc "tuple" && decide (z = "reversed") && glB k.sc "reversed" && noStar1 l && chkE k a l
    | _ => false
  | .idx a i, x => match x with
    | .Subscript l r _ => plainIxB r && chkE k a l && chkE k i r
    | _ => false
  | .cut _ a lo hi, x => match x with
    | .Subscript l (.Slice xl xh none _) _ => chkE k a l && chkO k lo xl && chkO k hi xh
    | _ => false
  | .attr a f, x => match x with
    | .Attribute l n _ => decide (n = k.nm f) && baseOk l && chkE k a l
    | _ => false
  | .call i es _, x => match x with
    | .Call (.Name y _) xs [] _ => !k.hot && k.has i && k.top i && decide (y = k.gn i) && glB k.sc y && okN y && xs.all noStar1 && chkEs k es xs
    | _ => false
  | .make c es _, x => match x with
    | .Call (.Name y _) xs [] _ => !k.hot && k.ini c && decide (y = k.cn c) && glB k.sc y && okN y && xs.all noStar1 && chkEs k es xs
    | _ => false
  | .meth a m es, x => match x with
    | .Call (.Attribute o n apos) xs [] pos => !k.hot && decide (n = k.nm m) && baseOk o && decide (xs.length < 30) && (apos.endLine == pos.line) && xs.all noStar1 && chkE k a o && chkEs k es xs
    | _ => false
  | .bi b _ es, x => match x with
    | .Call (.Name y _) xs [] _ => b.one && decide (y = b.name) && glB k.sc y && !xs.isEmpty && xs.all noStar1 && chkEs k es xs
    | _ => false
  | .bm b _ a es, x => match x with
    | .Call (.Attribute o n apos) xs [] pos => decide (n = b.name) && baseOk o && decide (xs.length < 30) && (apos.endLine == pos.line) && xs.all noStar1 && chkE k a o && chkEs k es xs
    | _ => false
  | .isa a t, x => match x with
    | .Call (.Name y _) [l, ty] [] _ => decide (y = "isinstance") && glB k.sc y && noStar1 l && tyOk k t ty && chkE k a l
    | _ => false
  | .comp _ elt p it cond own, x => match x with
    | .ListComp el [⟨tg, iter, ifs, asy⟩] scope _ => !k.hot && decide (asy = 0) && blkC k.N k.sc scope (ownOf k own) && tgOk (blkK k scope) p tg && foldOk iter && p.slots.all (fun i => own.contains i) && chkI k it tg iter && chkC (blkK k scope) cond ifs && chkE (blkK k scope) elt el
    | _ => false
  | .compX _ elt p it cond own, x => match x with
    | .ListComp el [⟨tg, iter, ifs, asy⟩] scope _ => !k.deep && !k.hot && decide (asy = 0) && blkC k.N k.sc scope (ownOf k own) && tgOk (blkK k scope) p tg && foldOk iter && p.slots.all (fun i => own.contains i) && chkI k it tg iter && chkC (blkK k scope) cond ifs && chkE (blkK k scope) elt el
    | _ => false
  | .frz a, x => chkE k a x
  | .exIs c, x => match x with
    | .Call (.Name y _) [.Name n _, .Name z _] [] _ => k.hot && decide (y = "isinstance") && glB k.sc y && (match k.xsl with
        | some i => decide (k.N[i]? = some n)
        | none => false) && visB k.sc n && okN n && decide (z = k.cn c) && glB k.sc z && okN z && k.xok c
    | _ => false
  | .sset _ a, x => match x with
    | .Call (.Name y _) [.Call (.Name z _) [l] [] _] [] _ => !k.hot && decide (y = "sorted") && glB k.sc "sorted" && decide (z = "set") && glB k.sc "set" && noStar1 l && chkE k a l
    | _ => false
  | .exVE, x => match x with
    | .Call (.Name y _) [.Name n _, .Name z _] [] _ => k.hot && decide (y = "isinstance") && glB k.sc y && (match k.xsl with
        | some i => decide (k.N[i]? = some n)
        | none => false) && visB k.sc n && okN n && decide (z = "ValueError") && glB k.sc z
    | _ => false
  | .exFld f, x => match x with
    | .Attribute (.Name n _) g _ => k.hot && decide (g = k.nm f) && (match k.xsl with
        | some i => decide (k.N[i]? = some n)
        | none => false) && visB k.sc n && okN n
    | _ => false
where
  tyOk (k : Ck) (t : Ty) (x : Expr) : Bool := match t, x with
    | .listTuple, .Tuple [.Name y1 _, .Name y2 _] _ _ => decide (y1 = "list") && decide (y2 = "tuple") && glB k.sc "list" && glB k.sc "tuple"
    | .listTuple, _ => false
    | t, .Name y _ => t.names.all fun n => decide (y = n) && glB k.sc n
    | _, _ => false
def chkEs (k : Ck) : List E → List Expr → Bool
  | [], [] => true
  | e :: es, x :: xs => chkE k e x && chkEs k es xs
  | _, _ => false
def chkDD (k : Ck) : List E → List (Option Expr) → List Expr → Bool
  | [], [], [] => true
  | a :: b :: es, some x :: xs, y :: ys => chkE k a x && chkE k b y && chkDD k es xs ys
  | _, _, _ => false
def chkO (k : Ck) : Option E → Option Expr → Bool
  | none, none => true
  | some e, some x => chkE k e x
  | _, _ => false
def chkC (k : Ck) : Option E → List Expr → Bool
  | none, [] => true
  | some e, [x] => chkE k e x && testE e x
  | _, _ => false
def chkI (k : Ck) : It → Expr → Expr → Bool
  | .seq e, _, x => chkE k e x
  | .range1 a, _, x => match x with
    | .Call (.Name y _) [l] [] _ => decide (y = "range") && glB k.sc y && noStar1 l && chkE k a l
    | _ => false
  | .range2 a b, _, x => match x with
    | .Call (.Name y _) [l, r] [] _ => decide (y = "range") && glB k.sc y && noStar1 l && noStar1 r && chkE k a l && chkE k b r
    | _ => false
  | .chars e, _, x => chkE k e x
  | .enum e, tg, x => match x with
    | .Call (.Name y _) [l] [] _ => decide (y = "enumerate") && isTupX tg && glB k.sc y && noStar1 l && chkE k e l
    | _ => false
  | .zip a b, tg, x => match x with
    | .Call (.Name y _) [l, r] [] _ => decide (y = "zip") && isTupX tg && glB k.sc y && noStar1 l && noStar1 r && chkE k a l && chkE k b r
    | _ => false
  | .rev e, _, x => match x with
    | .Call (.Name y _) [l] [] _ => decide (y = "reversed") && glB k.sc y && noStar1 l && chkE k e l
    | _ => false
end
/-! ### the pieces of the check -/
section
variable {X : Cx}
theorem glB_ok {k : Ck} {y : Str} (hs : X.env.scope = k.sc) (h : glB k.sc y = true) : Gl X y := by
  unfold glB at h
  split at h
  · rename_i e
    unfold Gl Env.kindOf
    rw [hs]; exact e
  · cases h
theorem visB_ok {k : Ck} {y : Str} (hs : X.env.scope = k.sc) (h : visB k.sc y = true) : Vis X.env.scope y := by
  unfold visB at h
  rw [hs]
  split at h
  · rename_i e; exact .inl e
  · rename_i e; exact .inr (.inl e)
  · rename_i e; exact .inr (.inr e)
  · cases h
theorem okN_ok {y : Str} (h : okN y = true) : (y == ("__debug__" : Str)) = false ∧ (y == ("__classdict__" : Str)) = false := by
  unfold okN at h
  simpa using h
theorem locB_ok {k : Ck} {y : Str} (hs : X.env.scope = k.sc) (hf : ∀ x, k.fnb x = true → X.fn x = true) (h : locB k y = true) : Loc X.env.scope y ∧ (X.fn y = true ∨ X.env.scope.names.lookup y = some .local) := by
  unfold locB at h
  rw [hs]
  split at h
  · rename_i e; exact ⟨.inl e, .inr e⟩
  · rename_i e; exact ⟨.inr e, .inl (hf y h)⟩
  · cases h
theorem plainT_ok {x : Expr} {env : Env} (h : plainT x = true) : ∀ whole, isTrue x env whole = (do let v ← whole; standAt x.pos; holding [v] (truthy v)) := by
  cases x <;> first | exact fun _ => rfl | exact absurd h Bool.false_ne_true
theorem plainIx_ok {x : Expr} (h : plainIxB x = true) : PlainIx x := by
  cases x <;> first | exact fun _ _ => rfl | exact absurd h Bool.false_ne_true
theorem foldOk_ok {x : Expr} {env : Env} (h : foldOk x = true) : ∀ v, foldedSetIterable x env v = pure v := by
  cases x <;> first | exact fun _ => rfl | exact absurd h Bool.false_ne_true
theorem tgs_ok {k : Ck} (hN : X.N = k.N) (nd : X.N.Nodup) (hs : X.env.scope = k.sc) (hf : ∀ x, k.fnb x = true → X.fn x = true) : ∀ {is : List Nat} {es : List Expr}, tgsOk k is es = true →
    PGs X es (gPn is) ∧ (assignEach es X.env).length = is.length ∧ (assignEach es X.env).findIdx? (·.1) = none
  | [], [], _ => ⟨pgs_nil, rfl, rfl⟩
  | i :: is, e :: es, h => by
    cases e with
    | Name y p =>
      unfold tgsOk at h
      simp only [Bool.and_eq_true, decide_eq_true_eq] at h
      obtain ⟨⟨h1, h2⟩, h3⟩ := h
      obtain ⟨a, b, c⟩ := tgs_ok hN nd hs hf h3
      obtain ⟨l1, l2⟩ := locB_ok (X := X) hs hf h2
      refine ⟨pgs_cons (pg_name nd (by rw [hN]; exact h1) l1 l2) a rfl, ?_, ?_⟩
      · show (_ :: assignEach es X.env).length = _
        simp [b]
      · show List.findIdx? _ ((false, _) :: assignEach es X.env) = none
        rw [List.findIdx?_cons, c]
        rfl
    | _ => exact absurd h (by simp [tgsOk])
  | [], _ :: _, h => absurd h (by simp [tgsOk])
  | _ :: _, [], h => absurd h (by simp [tgsOk])
theorem tg_ok {k : Ck} (hN : X.N = k.N) (nd : X.N.Nodup) (hs : X.env.scope = k.sc) (hf : ∀ x, k.fnb x = true → X.fn x = true) (hc : k.hot = false → X.calm = true) {p : Pt} {e : Expr} (h : tgOk k p e = true) : PG X e (gP X.K p) := by
  unfold tgOk at h
  split at h
  · simp only [Bool.and_eq_true, decide_eq_true_eq] at h
    obtain ⟨l1, l2⟩ := locB_ok (X := X) hs hf h.2
    exact pg_name nd (by rw [hN]; exact h.1) l1 l2
  · simp only [Bool.and_eq_true, Bool.not_eq_true'] at h
    obtain ⟨a, b, c⟩ := tgs_ok hN nd hs hf h.2
    exact pg_tup (hc h.1) a b c
  · cases h
end
end L2.Mini
set_option Elab.async false
set_option linter.all false
set_option maxRecDepth 100000
set_option maxHeartbeats 2000000
/-! Mini, part 14: a checked expression means what the IR says. -/
namespace L2.Mini
open PySem PySem.Spec PyProof.Rows

structure Tab (G : Gx) (C : Calls) (k : Ck) (mg : Str → Option Value) : Prop where
  nm : k.nm = G.nm
  gn : k.gn = G.gn
  cn : k.cn = G.cn
  has : ∀ i, k.has i = true → C.has i = true
  top : ∀ i, k.top i = true → mg (G.gn i) = some (.ref (G.fa i))
  ini : ∀ c, k.ini c = true → ∃ i, C.ini c = some i
  gv : ∀ n i, k.gv n = some i → ∃ v, mg (k.gk n) = some v ∧ RelV i.v v
  bl : ∀ x ∈ biNames, mg x = none
  xok : ∀ c, k.xok c = true → C.xok c = true ∧ mg (G.cn c) = some (.ref (G.ca c))
  xi : ∀ c, k.xi c = true → C.xi c = true
structure Ctx (G : Gx) (C : Calls) (kk : Nat) (k : Ck) (cur : Cur) (X : Cx) (W : WX) : Prop where
  N : X.N = k.N
  sc : X.env.scope = k.sc
  fn : ∀ x, k.fnb x = true → X.fn x = true
  S : cur = none → Sta G C X.prog X.w X.K X.mg X.base kk
  fl : ∀ c f, C.fl c f = true → Cls X.K (G.ca c) ∧ NoAttr X.K (G.ca c) (G.nm f)
  xk : ∀ c d, C.xok c = true → C.xok d = true → PySem.W.kitOne X.K (.ref (G.ca c)) (.ref (G.ca d)) = some (C.sub c d)
  xv : ∀ c, C.xok c = true → PySem.W.kitOne X.K (.ref (G.ca c)) (.type "ValueError") = some true
  xn : cur = none → G.exs = none
  xsl : k.xsl = G.exs.map fun z => z.1.1
  sui : ∀ c fs, cur = some (c, fs) → C.xok c = true ∧ ∀ i v w, G.exs = some ((i, v), w) → w.1 = fs ∧ ∃ a, v = .ref a ∧ CallR X (.builtin "isinstance") (rIsX X.K (G.ca c) a w.2) ∧ ∀ f, (C.xf c).contains f = true → FldR X a (G.ca c) w.2 (G.nm f)
  dp : cur = none → k.deep = false → X.stack = X.env :: X.outer ∧ X.env.frame = some X.env.locals
  tk : Takes X W
  room : cur = none → Room (kk + 1) X.A
  units : X.A.units + 65 < cLine
  nd : X.N.Nodup
  hot : k.hot = cur.isSome
  calm : cur = none → X.calm = true
  T : Tab G C k X.mg
  ke : KEq G X.K
  we : WEq G X.w
section
variable {G : Gx} {C : Calls} {kk : Nat} {k : Ck} {cur : Cur} {X : Cx} {W : WX}
theorem Ctx.cold (c : Ctx G C kk k cur X W) (h : k.hot = false) : cur = none := by
  have := c.hot
  rw [h] at this
  cases cur with
  | none => rfl
  | some _ => cases this
theorem Ctx.blk (c : Ctx G C kk k none X W) (scope : Scope) (s : Shared) (H : Hp) (A : Addr) (cl : List (Str × Addr)) (fp : List Addr) : Ctx G C kk (blkK k scope) none (X.blk s H scope (compEnvC scope cl A X.env) fp) WF where
  N := c.N
  sc := by
    show relS scope X.env.scope = relS scope k.sc
    rw [c.sc]
  fn := fun x h => h
  S := c.S
  fl := c.fl
  xk := c.xk
  xv := c.xv
  xn := c.xn
  xsl := c.xsl
  sui := fun _ _ h => by cases h
  dp := fun _ z => by cases z
  tk := fun u s' ⟨a, B, sI, pins, σ, H, cls, d, e, I, nb, up, sky, na, os, ag, w⟩ => w.elim
  room := c.room
  units := c.units
  nd := c.nd
  hot := c.hot
  calm := c.calm
  T := ⟨c.T.nm, c.T.gn, c.T.cn, c.T.has, c.T.top, c.T.ini, c.T.gv, c.T.bl, c.T.xok, c.T.xi⟩
  ke := c.ke
  we := c.we
theorem takes_xx (X : Cx) : Takes X WF := fun u s' ⟨a, B, sI, pins, σ, H, cls, d, e, I, nb, up, sky, na, os, ag, w⟩ => w.elim
theorem Ctx.blkX (c : Ctx G C kk k none X W) (scope : Scope) (s : Shared) (H : Hp) (A : Addr) (cl : List (Str × Addr)) (fp : List Addr) (xe : Value → Shared → Prop) {W' : WX} (tk : Takes (X.blkX s H scope (compEnvC scope cl A X.env) fp xe) W') : Ctx G C kk (blkK k scope) none (X.blkX s H scope (compEnvC scope cl A X.env) fp xe) W' where
  N := c.N
  sc := by
    show relS scope X.env.scope = relS scope k.sc
    rw [c.sc]
  fn := fun x h => h
  S := c.S
  fl := c.fl
  xk := c.xk
  xv := c.xv
  xn := c.xn
  xsl := c.xsl
  sui := fun _ _ h => by cases h
  dp := fun _ z => by cases z
  tk := tk
  room := c.room
  units := c.units
  nd := c.nd
  hot := c.hot
  calm := c.calm
  T := ⟨c.T.nm, c.T.gn, c.T.cn, c.T.has, c.T.top, c.T.ini, c.T.gv, c.T.bl, c.T.xok, c.T.xi⟩
  ke := c.ke
  we := c.we
theorem Ctx.tg (c : Ctx G C kk k cur X W) {p : Pt} {e : Expr} (h : tgOk k p e = true) : PG X e (gP X.K p) := tg_ok c.N c.nd c.sc c.fn (fun h => c.calm (c.cold h)) h
theorem plainP [KEq G X.K] [WEq G X.w] {x : Expr} {m : En → Hm → Res D} (h : PE X x (rdE G W m)) : PE X x (rdE G W m) ∧ (plainT x = true → PT X x (rdT G W (tst m))) := ⟨h, fun ht => snd_tst h (plainT_ok ht)⟩
theorem nilK {es : List E} {xs : List Expr} (h : chkEs k es xs = true) (e : xs = []) (ρ : En) (h' : Hm) : evEs C cur es ρ h' = .ok [] h' := by
  subst e
  cases es with
  | nil => rfl
  | cons e es => exact absurd h (by simp [chkEs])
theorem biName_in (b : Bi) : b.name ∈ biNames := by cases b <;> decide
mutual
theorem sndE : ∀ (e : E) {k : Ck} {cur : Cur} {X : Cx} {W : WX} {x : Expr}, Ctx G C kk k cur X W → chkE k e x = true → PE X x (rdE G W (evE C cur e)) ∧ (testE e x = true → PT X x (rdT G W (tst (evE C cur e))))
  | .no, _, _, _, _, _, c, _ => haveI := c.ke; haveI := c.we; ⟨snd_noE, fun _ => snd_noT⟩
  | .var i, k, cur, X, W, x, c, h => by
    haveI := c.ke; haveI := c.we
    refine plainP ?_
    unfold chkE at h
    split at h
    · simp only [Bool.and_eq_true, decide_eq_true_eq] at h
      obtain ⟨⟨h1, h2⟩, h3⟩ := h
      obtain ⟨n1, n2⟩ := okN_ok h3
      exact snd_var (by rw [c.N]; exact h1) (visB_ok c.sc h2) n1 n2
    · cases h
  | .con d, k, cur, X, W, x, c, h => by
    haveI := c.ke; haveI := c.we
    refine plainP ?_
    unfold chkE at h
    split at h
    · exact snd_con (of_decide_eq_true h)
    · cases h
  | .glob n i, k, cur, X, W, x, c, h => by
    haveI := c.ke; haveI := c.we
    refine plainP ?_
    unfold chkE at h
    split at h
    · simp only [Bool.and_eq_true, decide_eq_true_eq] at h
      obtain ⟨⟨⟨h1, h2⟩, h3⟩, h4⟩ := h
      obtain ⟨v, h5, tk, rfl⟩ := c.T.gv n (.int i) h3
      subst h1
      exact snd_glob (glB_ok c.sc h2) h5 (okN_ok h4).1
    · cases h
  | .globT n t, k, cur, X, W, x, c, h => by
    haveI := c.ke; haveI := c.we
    refine plainP ?_
    unfold chkE at h
    split at h
    · simp only [Bool.and_eq_true, decide_eq_true_eq] at h
      obtain ⟨⟨⟨h1, h2⟩, h3⟩, h4⟩ := h
      obtain ⟨v, h5, hv⟩ := c.T.gv n (.str t) h3
      subst h1
      exact snd_globT (glB_ok c.sc h2) h5 hv (okN_ok h4).1
    · cases h
  | .bin op mk a b, k, cur, X, W, x, c, h => by
    haveI := c.ke; haveI := c.we
    refine plainP ?_
    unfold chkE at h
    split at h
    · simp only [Bool.and_eq_true, decide_eq_true_eq] at h
      obtain ⟨⟨h1, h2⟩, h3⟩ := h
      subst h1
      exact snd_bin (sndE a c h2).1 (sndE b c h3).1
    · cases h
  | .neg a, k, cur, X, W, x, c, h => by
    haveI := c.ke; haveI := c.we
    refine plainP ?_
    unfold chkE at h
    split at h
    · exact snd_neg (sndE a c h).1
    · cases h
  | .inv a, k, cur, X, W, x, c, h => by
    haveI := c.ke; haveI := c.we
    refine plainP ?_
    unfold chkE at h
    split at h
    · exact snd_inv (sndE a c h).1
    · cases h
  | .cmp op a b, k, cur, X, W, x, c, h => by
    haveI := c.ke; haveI := c.we
    unfold chkE at h
    split at h
    · simp only [Bool.and_eq_true, decide_eq_true_eq, Bool.not_eq_true'] at h
      obtain ⟨⟨⟨h1, h2⟩, h3⟩, h4⟩ := h
      subst h1
      exact ⟨snd_cmp c.units (sndE a c h3).1 (sndE b c h4).1 h2, fun _ => snd_tst_cmp c.units (sndE a c h3).1 (sndE b c h4).1 h2⟩
    · cases h
  | .chain o1 o2 a b d, k, cur, X, W, x, c, h => by
    haveI := c.ke; haveI := c.we
    unfold chkE at h
    split at h
    · simp only [Bool.and_eq_true, decide_eq_true_eq, Bool.not_eq_true'] at h
      obtain ⟨⟨⟨⟨⟨h1, h2⟩, h3⟩, h4⟩, h5⟩, h6⟩ := h
      subst h1; subst h2
      exact ⟨snd_chain c.units (sndE a c h4).1 (sndE b c h5).1 (sndE d c h6).1 h3, fun _ => snd_tst_chain c.units (sndE a c h4).1 (sndE b c h5).1 (sndE d c h6).1 h3⟩
    · cases h
  | .bool and es, k, cur, X, W, x, c, h => by
    haveI := c.ke; haveI := c.we
    unfold chkE at h
    split at h
    · rename_i o vs pos
      simp only [Bool.and_eq_true, decide_eq_true_eq, Bool.not_eq_true'] at h
      obtain ⟨⟨h1, h2⟩, h3⟩ := h
      have hne : es ≠ [] := by
        intro e; subst e; cases h2
      obtain ⟨q1, q2⟩ := sndB es (and := and) (pos := pos) c h3 hne
      subst h1
      exact ⟨q1, fun ht => (q2 ht).pt⟩
    · cases h
  | .not a, k, cur, X, W, x, c, h => by
    haveI := c.ke; haveI := c.we
    unfold chkE at h
    split at h
    · exact ⟨snd_not (sndE a c h).1, fun ht => snd_tst_not ((sndE a c h).2 ht)⟩
    · cases h
  | .ife d a b, k, cur, X, W, x, c, h => by
    haveI := c.ke; haveI := c.we
    refine plainP ?_
    unfold chkE at h
    split at h
    · simp only [Bool.and_eq_true] at h
      obtain ⟨⟨⟨h1, h2⟩, h3⟩, h4⟩ := h
      exact snd_ife ((sndE d c h1).2 h2) (sndE a c h3).1 (sndE b c h4).1
    · cases h
  | .tup es, k, cur, X, W, x, c, h => by
    haveI := c.ke; haveI := c.we
    refine plainP ?_
    unfold chkE at h
    split at h
    · simp only [Bool.and_eq_true] at h
      exact snd_tup (sndEs es c h.2 h.1)
    · cases h
  | .lst mk es, k, cur, X, W, x, c, h => by
    haveI := c.ke; haveI := c.we
    refine plainP ?_
    unfold chkE at h
    split at h
    · simp only [Bool.and_eq_true] at h
      exact snd_lst (sndEs es c h.2 h.1)
    · cases h
  | .dic, k, cur, X, W, x, c, h => by
    haveI := c.ke; haveI := c.we
    refine plainP ?_
    unfold chkE at h
    split at h
    · exact snd_dic
    · cases h
  | .disp es, k, cur, X, W, x, c, h => by
    haveI := c.ke; haveI := c.we
    refine plainP ?_
    unfold chkE at h
    split at h
    · rename_i ks vs pos
      simp only [Bool.and_eq_true, decide_eq_true_eq] at h
      obtain ⟨⟨⟨⟨h1, h2⟩, h3⟩, h4⟩, h5⟩ := h
      obtain ⟨trs, p1, p2⟩ := sndD es (W := W) (pos := pos) c h5
      exact snd_disp p1 p2 h1 h2 h3 h4
    · cases h
  | .ditn, k, cur, X, W, x, c, h => by
    haveI := c.ke; haveI := c.we
    refine plainP ?_
    unfold chkE at h
    split at h
    · exact snd_ditn
    · cases h
  | .dit1 a b, k, cur, X, W, x, c, h => by
    unfold chkE at h
    cases h
  | .sdit mk a, k, cur, X, W, x, c, h => by
    unfold chkE at h
    cases h
  | .lrng mk a, k, cur, X, W, x, c, h => by
    haveI := c.ke; haveI := c.we
    refine plainP ?_
    unfold chkE at h
    split at h
    · simp only [Bool.and_eq_true, decide_eq_true_eq, Bool.not_eq_true'] at h
      obtain ⟨⟨⟨⟨⟨⟨h0, h1⟩, h2⟩, h3⟩, h4⟩, h5⟩, h6⟩ := h
      obtain rfl := c.cold h0
      subst h1; subst h3
      exact snd_lrng (c.calm rfl) (glB_ok c.sc h2) (c.T.bl _ (by decide)) (glB_ok c.sc h4) (c.T.bl _ (by decide)) h5 (sndE a c h6).1
    · cases h
  | .lset a, k, cur, X, W, x, c, h => by
    haveI := c.ke; haveI := c.we
    refine plainP ?_
    unfold chkE at h
    split at h
    · simp only [Bool.and_eq_true, decide_eq_true_eq, Bool.not_eq_true'] at h
      obtain ⟨⟨⟨⟨⟨⟨h0, h1⟩, h2⟩, h3⟩, h4⟩, h5⟩, h6⟩ := h
      obtain rfl := c.cold h0
      subst h1; subst h3
      exact snd_lset (c.calm rfl) (glB_ok c.sc h2) (c.T.bl _ (by decide)) (glB_ok c.sc h4) (c.T.bl _ (by decide)) h5 (sndE a c h6).1
    · cases h
  | .lzip mk a b, k, cur, X, W, x, c, h => by
    haveI := c.ke; haveI := c.we
    refine plainP ?_
    unfold chkE at h
    split at h
    · simp only [Bool.and_eq_true, decide_eq_true_eq, Bool.not_eq_true'] at h
      obtain ⟨⟨⟨⟨⟨⟨⟨⟨h0, h1⟩, h2⟩, h3⟩, h4⟩, h5⟩, h6⟩, h7⟩, h8⟩ := h
      obtain rfl := c.cold h0
      subst h1; subst h3
      exact snd_lzip (c.calm rfl) (glB_ok c.sc h2) (c.T.bl _ (by decide)) (glB_ok c.sc h4) (c.T.bl _ (by decide)) h5 h6 (sndE a c h7).1 (sndE b c h8).1
    · cases h
  | .two a, k, cur, X, W, x, c, h => by
    haveI := c.ke; haveI := c.we
    refine plainP ?_
    unfold chkE at h
    split at h
    · exact snd_two (sndE a c h).1
    · cases h
  | .tupRev a, k, cur, X, W, x, c, h => by
    haveI := c.ke; haveI := c.we
    refine plainP ?_
    unfold chkE at h
    split at h
    · simp only [Bool.and_eq_true, decide_eq_true_eq, Bool.not_eq_true'] at h
      obtain ⟨⟨⟨⟨⟨⟨h0, h1⟩, h2⟩, h3⟩, h4⟩, h5⟩, h6⟩ := h
      obtain rfl := c.cold h0
      subst h1; subst h3
      exact snd_tupRev (c.calm rfl) (glB_ok c.sc h2) (c.T.bl _ (by decide)) (glB_ok c.sc h4) (c.T.bl _ (by decide)) h5 (sndE a c h6).1
    · cases h
  | .idx a i, k, cur, X, W, x, c, h => by
    haveI := c.ke; haveI := c.we
    refine plainP ?_
    unfold chkE at h
    split at h
    · simp only [Bool.and_eq_true] at h
      obtain ⟨⟨h1, h2⟩, h3⟩ := h
      exact snd_idx c.units (sndE a c h2).1 (sndE i c h3).1 (plainIx_ok h1)
    · cases h
  | .cut mk a lo hi, k, cur, X, W, x, c, h => by
    haveI := c.ke; haveI := c.we
    refine plainP ?_
    unfold chkE at h
    split at h
    · simp only [Bool.and_eq_true] at h
      obtain ⟨⟨h1, h2⟩, h3⟩ := h
      exact snd_cut (sndE a c h1).1 (sndO lo c h2) (sndO hi c h3)
    · cases h
  | .attr a f, k, cur, X, W, x, c, h => by
    haveI := c.ke; haveI := c.we
    refine plainP ?_
    unfold chkE at h
    split at h
    · simp only [Bool.and_eq_true, decide_eq_true_eq] at h
      obtain ⟨⟨h1, h2⟩, h3⟩ := h
      rw [c.T.nm] at h1
      subst h1
      exact snd_attr c.fl (sndE a c h3).1 h2
    · cases h
  | .call i es ds, k, cur, X, W, x, c, h => by
    haveI := c.ke; haveI := c.we
    refine plainP ?_
    unfold chkE at h
    split at h
    · simp only [Bool.and_eq_true, decide_eq_true_eq, Bool.not_eq_true'] at h
      obtain ⟨⟨⟨⟨⟨⟨⟨h0, h1⟩, h2⟩, h3⟩, h4⟩, h5⟩, h6⟩, h7⟩ := h
      obtain rfl := c.cold h0
      rw [c.T.gn] at h3
      subst h3
      exact snd_call (c.S rfl) (c.T.has i h1) ((c.room rfl).mono (Nat.le_succ _)) c.tk (glB_ok c.sc h4) (c.T.top i h2) h6 (okN_ok h5).1 (sndEs es c h7 h6) fun e ρ h => nilK h7 e ρ h
    · cases h
  | .make d es ds, k, cur, X, W, x, c, h => by
    haveI := c.ke; haveI := c.we
    refine plainP ?_
    unfold chkE at h
    split at h
    · simp only [Bool.and_eq_true, decide_eq_true_eq, Bool.not_eq_true'] at h
      obtain ⟨⟨⟨⟨⟨⟨h0, h1⟩, h2⟩, h4⟩, h5⟩, h6⟩, h7⟩ := h
      obtain rfl := c.cold h0
      rw [c.T.cn] at h2
      subst h2
      obtain ⟨i, hi⟩ := c.T.ini d h1
      exact snd_make (c.S rfl) (c.room rfl) c.tk hi (glB_ok c.sc h4) h6 (okN_ok h5).1 (sndEs es c h7 h6) fun e ρ h => nilK h7 e ρ h
    · cases h
  | .meth a m es, k, cur, X, W, x, c, h => by
    haveI := c.ke; haveI := c.we
    refine plainP ?_
    unfold chkE at h
    split at h
    · simp only [Bool.and_eq_true, decide_eq_true_eq, Bool.not_eq_true'] at h
      obtain ⟨⟨⟨⟨⟨⟨⟨h0, h1⟩, h2⟩, h3⟩, h4⟩, h5⟩, h6⟩, h7⟩ := h
      obtain rfl := c.cold h0
      rw [c.T.nm] at h1
      subst h1
      exact snd_meth (c.S rfl) ((c.room rfl).mono (Nat.le_succ _)) c.tk h2 h5 h3 h4 (sndE a c h6).1 (sndEs es c h7 h5) fun e ρ h => nilK h7 e ρ h
    · cases h
  | .bi b mk es, k, cur, X, W, x, c, h => by
    haveI := c.ke; haveI := c.we
    refine plainP ?_
    unfold chkE at h
    split at h
    · simp only [Bool.and_eq_true, decide_eq_true_eq, Bool.not_eq_true'] at h
      obtain ⟨⟨⟨⟨⟨h0, h1⟩, h2⟩, h3⟩, h4⟩, h5⟩ := h
      subst h1
      by_cases hh : (cur.isSome && !b.hot) = true
      · have e : evE C cur (.bi b mk es) = fun _ _ => .stuck := by
          funext ρ h
          show (if (cur.isSome && !b.hot) = true then Res.stuck else _) = _
          rw [if_pos hh]
        rw [e]; exact snd_noE
      · have e : evE C cur (.bi b mk es) = fun ρ h => (evEs C cur es ρ h).bind fun xs h => biCall b mk xs h := by
          funext ρ h
          show (if (cur.isSome && !b.hot) = true then Res.stuck else _) = _
          rw [if_neg hh]
        rw [e]
        refine snd_bi c.units h0 (fun hb => c.calm ?_) (glB_ok c.sc h2) (c.T.bl _ (biName_in b)) h4 (sndEs es c h5 h4) (by intro e; subst e; cases h3)
        rw [hb] at hh
        cases cur with
        | none => rfl
        | some _ => exact absurd rfl hh
    · cases h
  | .bm b mk a es, k, cur, X, W, x, c, h => by
    haveI := c.ke; haveI := c.we
    refine plainP ?_
    unfold chkE at h
    split at h
    · simp only [Bool.and_eq_true, decide_eq_true_eq, Bool.not_eq_true'] at h
      obtain ⟨⟨⟨⟨⟨⟨h1, h2⟩, h3⟩, h4⟩, h5⟩, h6⟩, h7⟩ := h
      subst h1
      exact snd_bm c.units h2 h5 h3 h4 (sndE a c h6).1 (sndEs es c h7 h5) fun e ρ h => nilK h7 e ρ h
    · cases h
  | .isa a t, k, cur, X, W, x, c, h => by
    haveI := c.ke; haveI := c.we
    refine plainP ?_
    unfold chkE at h
    split at h
    · simp only [Bool.and_eq_true, decide_eq_true_eq, Bool.not_eq_true'] at h
      obtain ⟨⟨⟨⟨h1, h2⟩, h3⟩, h4⟩, h5⟩ := h
      subst h1
      have hg := glB_ok c.sc h2
      have hm := c.T.bl "isinstance" (by decide)
      have ha := (sndE a c h5).1
      unfold chkE.tyOk at h4
      split at h4
      · simp only [Bool.and_eq_true, decide_eq_true_eq] at h4
        obtain ⟨⟨⟨e1, e2⟩, g1⟩, g2⟩ := h4
        subst e1; subst e2
        exact snd_isa2 hg hm (glB_ok c.sc g1) (c.T.bl "list" (by decide)) (glB_ok c.sc g2) (c.T.bl "tuple" (by decide)) h3 ha
      · cases h4
      · rename_i y yp hne
        cases t with
        | listTuple => exact absurd rfl hne
        | int =>
          have h4' : (decide (y = "int") && glB k.sc "int") = true := by simpa [Ty.names] using h4
          simp only [Bool.and_eq_true, decide_eq_true_eq] at h4'
          obtain ⟨e1, g1⟩ := h4'
          subst e1
          exact snd_isa1 (t := .int) rfl (by decide) hg hm (glB_ok c.sc g1) (c.T.bl _ (by decide)) h3 ha
        | bool =>
          have h4' : (decide (y = "bool") && glB k.sc "bool") = true := by simpa [Ty.names] using h4
          simp only [Bool.and_eq_true, decide_eq_true_eq] at h4'
          obtain ⟨e1, g1⟩ := h4'
          subst e1
          exact snd_isa1 (t := .bool) rfl (by decide) hg hm (glB_ok c.sc g1) (c.T.bl _ (by decide)) h3 ha
        | str =>
          have h4' : (decide (y = "str") && glB k.sc "str") = true := by simpa [Ty.names] using h4
          simp only [Bool.and_eq_true, decide_eq_true_eq] at h4'
          obtain ⟨e1, g1⟩ := h4'
          subst e1
          exact snd_isa1 (t := .str) rfl (by decide) hg hm (glB_ok c.sc g1) (c.T.bl _ (by decide)) h3 ha
        | tuple =>
          have h4' : (decide (y = "tuple") && glB k.sc "tuple") = true := by simpa [Ty.names] using h4
          simp only [Bool.and_eq_true, decide_eq_true_eq] at h4'
          obtain ⟨e1, g1⟩ := h4'
          subst e1
          exact snd_isa1 (t := .tuple) rfl (by decide) hg hm (glB_ok c.sc g1) (c.T.bl _ (by decide)) h3 ha
        | list =>
          have h4' : (decide (y = "list") && glB k.sc "list") = true := by simpa [Ty.names] using h4
          simp only [Bool.and_eq_true, decide_eq_true_eq] at h4'
          obtain ⟨e1, g1⟩ := h4'
          subst e1
          exact snd_isa1 (t := .list) rfl (by decide) hg hm (glB_ok c.sc g1) (c.T.bl _ (by decide)) h3 ha
      · cases h4
    · cases h
  | .comp mk elt p it cond own, k, cur, X, W, x, c, h => by
    haveI := c.ke; haveI := c.we
    refine plainP ?_
    unfold chkE at h
    split at h
    · rename_i el tg iter ifs asy scope pos
      simp only [Bool.and_eq_true, decide_eq_true_eq, Bool.not_eq_true', List.all_eq_true] at h
      obtain ⟨⟨⟨⟨⟨⟨⟨⟨h0, h1⟩, h2⟩, h3⟩, h4⟩, h5⟩, h6⟩, h7⟩, h8⟩ := h
      obtain rfl := c.cold h0
      subst h1
      have ok : BlkOk X.N X.env.scope scope (ownOf k own) := by rw [c.N, c.sc]; exact blkOk_by h2
      have eo : (ownOf k own).map (·.2) = own := by
        unfold ownOf
        rw [List.map_map]
        exact List.map_id own
      have key := snd_comp (G := G) (W := W) (mk := mk) (p := p) (own := ownOf k own) (pos := pos) (c.xn rfl) (c.calm rfl) c.nd (sndI it (tg := tg) c h6) ok (fun s H A cl fp => (c.blk scope s H A cl fp).tg h3)
        (fun s H A cl fp => sndC cond (c.blk scope s H A cl fp) h7) (fun s H A cl fp => (sndE elt (c.blk scope s H A cl fp) h8).1) (foldOk_ok h4) (fun i hi => by
          rw [eo]
          have := h5 i hi
          simpa using this)
      rw [eo] at key
      exact key
    · cases h
  | .compX mk elt p it cond own, k, cur, X, W, x, c, h => by
    haveI := c.ke; haveI := c.we
    refine plainP ?_
    unfold chkE at h
    split at h
    · rename_i el tg iter ifs asy scope pos
      simp only [Bool.and_eq_true, decide_eq_true_eq, Bool.not_eq_true', List.all_eq_true] at h
      obtain ⟨⟨⟨⟨⟨⟨⟨⟨⟨hd, h0⟩, h1⟩, h2⟩, h3⟩, h4⟩, h5⟩, h6⟩, h7⟩, h8⟩ := h
      obtain rfl := c.cold h0
      subst h1
      have ok : BlkOk X.N X.env.scope scope (ownOf k own) := by rw [c.N, c.sc]; exact blkOk_by h2
      have eo : (ownOf k own).map (·.2) = own := by
        unfold ownOf
        rw [List.map_map]
        exact List.map_id own
      obtain ⟨hst, hfr⟩ := c.dp rfl hd
      have key := snd_compX (G := G) (W := W) (mk := mk) (p := p) (own := ownOf k own) (pos := pos) hst hfr c.tk (c.xn rfl) (c.calm rfl) c.nd (sndI it (tg := tg) c h6) ok (fun s H A cl fp xe => (c.blkX scope s H A cl fp xe (takes_xx _)).tg h3)
        (fun W' s H A cl fp xe tk => sndC cond (c.blkX scope s H A cl fp xe tk) h7) (fun W' s H A cl fp xe tk => (sndE elt (c.blkX scope s H A cl fp xe tk) h8).1) (foldOk_ok h4) (fun i hi => by
          rw [eo]
          have := h5 i hi
          simpa using this)
      rw [eo] at key
      exact key
    · cases h
  | .frz a, k, cur, X, W, x, c, h => by
    haveI := c.ke; haveI := c.we
    refine plainP ?_
    exact snd_frz (sndE a c h).1
  | .exIs d, k, cur, X, W, x, c, h => by
    haveI := c.ke; haveI := c.we
    refine plainP ?_
    unfold chkE at h
    split at h
    · simp only [Bool.and_eq_true, decide_eq_true_eq] at h
      obtain ⟨⟨⟨⟨⟨⟨⟨⟨⟨h0, h1⟩, h2⟩, h3⟩, h4⟩, h5⟩, h6⟩, h7⟩, h8⟩, h9⟩ := h
      subst h1
      rw [c.T.cn] at h6
      subst h6
      split at h3
      · rename_i i hxi
        have hx0 := c.xsl
        rw [hxi] at hx0
        cases he : G.exs with
        | none => rw [he] at hx0; cases hx0
        | some p =>
          obtain ⟨⟨i', v⟩, w⟩ := p
          rw [he] at hx0
          have e1 : i = i' := by simpa using hx0
          subst e1
          cases hcur : cur with
          | none => have := c.hot; rw [h0, hcur] at this; cases this
          | some q =>
            obtain ⟨c0, fs⟩ := q
            obtain ⟨s1, s2⟩ := c.sui c0 fs hcur
            obtain ⟨e4, a, e2, s3, s4⟩ := s2 i v w he
            subst e2
            obtain ⟨xd, xg⟩ := c.T.xok d h9
            obtain ⟨n1, n2⟩ := okN_ok h5
            obtain ⟨m1, m2⟩ := okN_ok h8
            exact snd_exIsX he (by rw [c.N]; exact of_decide_eq_true h3) (visB_ok c.sc h4) n1 n2 (glB_ok c.sc h2) (c.T.bl _ (by decide)) s3 (pe_glob (v := .ref (G.ca d)) (glB_ok c.sc h7) xg rfl m1) (fun u hu => hu) (c.xk c0 d s1 xd)
      · cases h3
    · cases h
  | .sset mk a, k, cur, X, W, x, c, h => by
    haveI := c.ke; haveI := c.we
    refine plainP ?_
    unfold chkE at h
    split at h
    · simp only [Bool.and_eq_true, decide_eq_true_eq, Bool.not_eq_true'] at h
      obtain ⟨⟨⟨⟨⟨⟨h0, h1⟩, h2⟩, h3⟩, h4⟩, h5⟩, h6⟩ := h
      obtain rfl := c.cold h0
      subst h1; subst h3
      exact snd_sset (c.calm rfl) (glB_ok c.sc h2) (c.T.bl _ (by decide)) (glB_ok c.sc h4) (c.T.bl _ (by decide)) h5 (sndE a c h6).1
    · cases h
  | .exVE, k, cur, X, W, x, c, h => by
    haveI := c.ke; haveI := c.we
    refine plainP ?_
    unfold chkE at h
    split at h
    · simp only [Bool.and_eq_true, decide_eq_true_eq] at h
      obtain ⟨⟨⟨⟨⟨⟨⟨h0, h1⟩, h2⟩, h3⟩, h4⟩, h5⟩, h6⟩, h7⟩ := h
      subst h1; subst h6
      split at h3
      · rename_i i hxi
        have hx0 := c.xsl
        rw [hxi] at hx0
        cases he : G.exs with
        | none => rw [he] at hx0; cases hx0
        | some p =>
          obtain ⟨⟨i', v⟩, w⟩ := p
          rw [he] at hx0
          have e1 : i = i' := by simpa using hx0
          subst e1
          cases hcur : cur with
          | none => have := c.hot; rw [h0, hcur] at this; cases this
          | some q =>
            obtain ⟨c0, fs⟩ := q
            obtain ⟨s1, s2⟩ := c.sui c0 fs hcur
            obtain ⟨e4, a, e2, s3, s4⟩ := s2 i v w he
            subst e2
            obtain ⟨n1, n2⟩ := okN_ok h5
            exact snd_exIsX he (by rw [c.N]; exact of_decide_eq_true h3) (visB_ok c.sc h4) n1 n2 (glB_ok c.sc h2) (c.T.bl _ (by decide)) s3 (pe_bltn (v := .ty "ValueError") (glB_ok c.sc h7) (c.T.bl _ (by decide)) (u := .type "ValueError") (by decide +kernel) rfl (by decide) (by decide)) (fun u hu => hu) (c.xv c0 s1)
      · cases h3
    · cases h
  | .exFld f, k, cur, X, W, x, c, h => by
    haveI := c.ke; haveI := c.we
    refine plainP ?_
    unfold chkE at h
    split at h
    · simp only [Bool.and_eq_true, decide_eq_true_eq] at h
      obtain ⟨⟨⟨⟨h0, h1⟩, h3⟩, h4⟩, h5⟩ := h
      rw [c.T.nm] at h1
      subst h1
      split at h3
      · rename_i i hxi
        have hx0 := c.xsl
        rw [hxi] at hx0
        cases he : G.exs with
        | none => rw [he] at hx0; cases hx0
        | some p =>
          obtain ⟨⟨i', v⟩, w⟩ := p
          rw [he] at hx0
          have e1 : i = i' := by simpa using hx0
          subst e1
          cases hcur : cur with
          | none => have := c.hot; rw [h0, hcur] at this; cases this
          | some q =>
            obtain ⟨c0, fs⟩ := q
            obtain ⟨s1, s2⟩ := c.sui c0 fs hcur
            obtain ⟨e4, a, e2, s3, s4⟩ := s2 i v w he
            subst e2
            subst e4
            obtain ⟨n1, n2⟩ := okN_ok h5
            cases hcf : (C.xf c0).contains f with
            | false =>
              have e9 : evE C (some (c0, w.1)) (.exFld f) = fun _ _ => .stuck := by
                funext ρ h
                show (if (C.xf c0).contains f = true then _ else _) = _
                rw [hcf]; rfl
              rw [e9]
              exact snd_noE
            | true =>
              have e9 : evE C (some (c0, w.1)) (.exFld f) = fun _ h => match getF w.1 f with | some d => .ok d h | none => .stuck := by
                funext ρ h
                show (if (C.xf c0).contains f = true then _ else _) = _
                rw [hcf]; rfl
              rw [e9]
              exact snd_exFld he (by rw [c.N]; exact of_decide_eq_true h3) (visB_ok c.sc h4) n1 n2 (s4 f hcf)
      · cases h3
    · cases h
theorem sndEs : ∀ (es : List E) {k : Ck} {cur : Cur} {X : Cx} {W : WX} {xs : List Expr}, Ctx G C kk k cur X W → chkEs k es xs = true → xs.all noStar1 = true → PA X xs (rdA G W (evEs C cur es))
  | [], _, _, _, _, [], c, _, _ => haveI := c.ke; haveI := c.we; snd_nil
  | e :: es, _, _, X, _, x :: xs, c, h, hs => by
    haveI := c.ke; haveI := c.we
    unfold chkEs at h
    simp only [Bool.and_eq_true] at h
    rw [List.all_cons] at hs
    obtain ⟨s1, s2⟩ := Bool.and_eq_true_iff.mp hs
    exact snd_cons (sndE e c h.1).1 (sndEs es c h.2 s2) (star_cons s1 _ _)
  | [], _, _, _, _, _ :: _, _, h, _ => by cases h
  | _ :: _, _, _, _, _, [], _, h, _ => by cases h
theorem sndD : ∀ (es : List E) {k : Ck} {cur : Cur} {X : Cx} {W : WX} {ks : List (Option Expr)} {vs : List Expr} {pos : Pos}, Ctx G C kk k cur X W → chkDD k es ks vs = true → ∃ trs, PPs X pos ks vs trs ∧ ∀ σ H Q, rdP G W (evEs C cur es) σ H Q → tPairs trs σ H Q
  | [], _, _, X, _, [], [], _, c, _ => haveI := c.ke; haveI := c.we; ⟨[], pps_nil, tp_nil⟩
  | a :: b :: es, k, cur, X, W, some x :: xs, y :: ys, pos, c, h => by
    haveI := c.ke; haveI := c.we
    unfold chkDD at h
    simp only [Bool.and_eq_true] at h
    obtain ⟨⟨h1, h2⟩, h3⟩ := h
    obtain ⟨trs, p1, p2⟩ := sndD es (W := W) (pos := pos) c h3
    exact ⟨_, pps_cons (sndE a c h1).1 (sndE b c h2).1 p1, tp_cons p2⟩
  | [_], _, _, _, _, ks, vs, _, _, h => absurd h (by simp [chkDD])
  | [], _, _, _, _, _ :: _, _, _, _, h => absurd h (by simp [chkDD])
  | [], _, _, _, _, [], _ :: _, _, _, h => absurd h (by simp [chkDD])
  | _ :: _ :: _, _, _, _, _, [], _, _, _, h => absurd h (by simp [chkDD])
  | _ :: _ :: _, _, _, _, _, none :: _, _, _, _, h => absurd h (by simp [chkDD])
  | _ :: _ :: _, _, _, _, _, some _ :: _, [], _, _, h => absurd h (by simp [chkDD])
theorem sndB : ∀ (es : List E) {k : Ck} {cur : Cur} {X : Cx} {W : WX} {xs : List Expr} {and : Bool} {pos : Pos}, Ctx G C kk k cur X W → chkEs k es xs = true → es ≠ [] →
    PE X (.BoolOp (if and then .And else .Or) xs pos) (rdE G W (evB C cur and es)) ∧ (testEs es xs = true → PW X (.BoolOp (if and then .And else .Or) xs pos) (rdT G W (tst (evB C cur and es))))
  | [], _, _, _, _, _, _, _, _, _, h => absurd rfl h
  | [e], k, cur, X, W, [x], and, pos, c, h, _ => by
    haveI := c.ke; haveI := c.we
    unfold chkEs at h
    simp only [Bool.and_eq_true] at h
    obtain ⟨q1, q2⟩ := sndE e c h.1
    refine ⟨snd_bool_one q1, fun ht => ?_⟩
    unfold testEs at ht
    simp only [Bool.and_eq_true] at ht
    cases and with
    | true => exact snd_tst_and1 (q2 ht.1)
    | false => exact snd_tst_or1 (q2 ht.1)
  | e :: e2 :: es, k, cur, X, W, x :: x2 :: xs, and, pos, c, h, _ => by
    haveI := c.ke; haveI := c.we
    unfold chkEs at h
    simp only [Bool.and_eq_true] at h
    obtain ⟨q1, q2⟩ := sndE e c h.1
    obtain ⟨r1, r2⟩ := sndB (e2 :: es) (and := and) (pos := pos) c h.2 (by simp)
    cases and with
    | true =>
      refine ⟨snd_and q1 r1, fun ht => ?_⟩
      unfold testEs at ht
      simp only [Bool.and_eq_true] at ht
      exact snd_tst_and (q2 ht.1) (r2 ht.2)
    | false =>
      refine ⟨snd_or q1 r1, fun ht => ?_⟩
      unfold testEs at ht
      simp only [Bool.and_eq_true] at ht
      exact snd_tst_or (q2 ht.1) (r2 ht.2)
  | _ :: _, _, _, _, _, [], _, _, _, h, _ => by cases h
  | [_], _, _, _, _, _ :: _ :: _, _, _, _, h, _ => by simp [chkEs] at h
  | _ :: _ :: _, _, _, _, _, [_], _, _, _, h, _ => by simp [chkEs] at h
theorem sndO : ∀ (e : Option E) {k : Ck} {cur : Cur} {X : Cx} {W : WX} {x : Option Expr}, Ctx G C kk k cur X W → chkO k e x = true → PO X x (rdO G W (evO C cur e))
  | none, _, _, _, _, none, c, _ => haveI := c.ke; haveI := c.we; snd_po_none
  | some e, _, _, _, _, some x, c, h => haveI := c.ke; haveI := c.we; snd_po_some (sndE e c h).1
  | none, _, _, _, _, some _, _, h => by cases h
  | some _, _, _, _, _, none, _, h => by cases h
theorem sndC : ∀ (e : Option E) {k : Ck} {cur : Cur} {X : Cx} {W : WX} {x : List Expr}, Ctx G C kk k cur X W → chkC k e x = true → PTs X x (rdT G W (evT C cur e))
  | none, _, _, _, _, [], c, _ => haveI := c.ke; haveI := c.we; snd_ifs0
  | some e, k, _, _, _, [x], c, h => by
    haveI := c.ke; haveI := c.we
    have h' : (chkE k e x && testE e x) = true := h
    simp only [Bool.and_eq_true] at h'
    exact snd_ifs1 ((sndE e c h'.1).2 h'.2)
  | none, _, _, _, _, _ :: _, _, h => by cases h
  | some _, _, _, _, _, [], _, h => by cases h
  | some _, _, _, _, _, _ :: _ :: _, _, h => by cases h
theorem sndI : ∀ (it : It) {k : Ck} {cur : Cur} {X : Cx} {W : WX} {tg x : Expr}, Ctx G C kk k cur X W → chkI k it tg x = true → PI X tg x (rdI G W (evI C cur it))
  | .seq e, _, _, _, _, _, _, c, h => haveI := c.ke; haveI := c.we; snd_iseq (sndE e c h).1
  | .chars e, _, _, _, _, _, _, c, h => haveI := c.ke; haveI := c.we; snd_chars (sndE e c h).1
  | .range1 a, k, cur, X, W, tg, x, c, h => by
    haveI := c.ke; haveI := c.we
    unfold chkI at h
    split at h
    · simp only [Bool.and_eq_true, decide_eq_true_eq] at h
      obtain ⟨⟨⟨h1, h2⟩, h3⟩, h4⟩ := h
      subst h1
      exact snd_irange1 (glB_ok c.sc h2) (c.T.bl _ (by decide)) h3 (sndE a c h4).1
    · cases h
  | .range2 a b, k, cur, X, W, tg, x, c, h => by
    haveI := c.ke; haveI := c.we
    unfold chkI at h
    split at h
    · simp only [Bool.and_eq_true, decide_eq_true_eq] at h
      obtain ⟨⟨⟨⟨⟨h1, h2⟩, h3⟩, h4⟩, h5⟩, h6⟩ := h
      subst h1
      exact snd_irange2 (glB_ok c.sc h2) (c.T.bl _ (by decide)) h3 h4 (sndE a c h5).1 (sndE b c h6).1
    · cases h
  | .enum e, k, cur, X, W, tg, x, c, h => by
    haveI := c.ke; haveI := c.we
    unfold chkI at h
    split at h
    · simp only [Bool.and_eq_true, decide_eq_true_eq] at h
      obtain ⟨⟨⟨⟨h1, h2⟩, h3⟩, h4⟩, h5⟩ := h
      subst h1
      cases tg with
      | Tuple a b d => exact snd_ienum (glB_ok c.sc h3) (c.T.bl _ (by decide)) h4 (sndE e c h5).1
      | _ => cases h2
    · cases h
  | .zip a b, k, cur, X, W, tg, x, c, h => by
    haveI := c.ke; haveI := c.we
    unfold chkI at h
    split at h
    · simp only [Bool.and_eq_true, decide_eq_true_eq] at h
      obtain ⟨⟨⟨⟨⟨⟨h1, h2⟩, h3⟩, h4⟩, h5⟩, h6⟩, h7⟩ := h
      subst h1
      cases tg with
      | Tuple _ _ _ => exact snd_izip (glB_ok c.sc h3) (c.T.bl _ (by decide)) h4 h5 (sndE a c h6).1 (sndE b c h7).1
      | _ => cases h2
    · cases h
  | .rev e, k, cur, X, W, tg, x, c, h => by
    haveI := c.ke; haveI := c.we
    unfold chkI at h
    split at h
    · simp only [Bool.and_eq_true, decide_eq_true_eq] at h
      obtain ⟨⟨⟨h1, h2⟩, h3⟩, h4⟩ := h
      subst h1
      exact snd_irev (glB_ok c.sc h2) (c.T.bl _ (by decide)) h3 (sndE e c h4).1
    · cases h
end
end
end L2.Mini
set_option Elab.async false
set_option linter.all false
set_option maxRecDepth 100000
set_option maxHeartbeats 2000000
/-! Mini, part 15: a checked statement means what the IR says. -/
namespace L2.Mini
open PySem PySem.Spec PyProof.Rows

def isCompX : Expr → Bool
  | .ListComp _ _ _ _ => true | .SetComp _ _ _ _ => true | .DictComp _ _ _ _ _ => true
  | _ => false
def isNameX : Expr → Bool
  | .Name _ _ => true
  | _ => false
def swB (sc : Scope) (y : Str) (l1 l2 : Nat) (names : List (Str × NameKind)) : Bool :=
  (decide (sc.names.lookup y = some .local)) && l1 == l2 && !(names.any fun (n, k) => n == y && (k == .local || k == .cell))
/-- name = [..] -/
def compSet (k : Ck) : Pt → E → Expr → Expr → Bool
  | .one _, .comp _ _ _ _ _ _, .Name _ _, .ListComp _ _ _ _ => true
  | _, _, _, _ => false
mutual
def chkS (k : Ck) : S → Stmt → Bool
  | .no, _ => true
  | .set p e, st => match st with
    | .Assign [tg] v _ => offB k p.slots && (tgOk k p tg && chkE k e v && (if isCompX v then compSet k p e tg v else isNameX tg || !isTupX v))
    | _ => false
  | .setA o f e, st => match st with
    | .Assign [.Attribute l n _] v _ => decide (n = k.nm f) && chkE k o l && chkE k e v
    | _ => false
  | .setI o i e, st => match st with
    | .Assign [.Subscript l r _] v _ => plainIxB r && chkE k o l && chkE k i r && chkE k e v
    | _ => false
  | .aug i op e, st => match st with
    | .AugAssign (.Name y _) o v _ => offB k [i] && decide (o = op.op) && (decide (op = .add) || decide (op = .sub)) && decide (k.N[i]? = some y) && locB k y && chkE k e v
    | _ => false
  | .expr e, st => match st with
    | .Expr v _ => !isCompX v && chkE k e v
    | _ => false
  | .ret e, st => match st with
    | .Return (some v) _ => chkE k e v
    | _ => false
  | .retN, st => match st with
    | .Return none _ => true
    | _ => false
  | .ite c a b, st => match st with
    | .If t x y _ => chkE k c t && testE c t && chkB k a x && chkB k b y
    | _ => false
  | .whil c b, st => match st with
    | .While t x [] _ => !k.hot && chkE k c t && testE c t && chkB k b x
    | _ => false
  | .forr p it b, st => match st with
    | .For tg iter x [] _ => !k.hot && offB k p.slots && foldOk iter && tgOk k p tg && chkI k it tg iter && chkB k b x
    | _ => false
  | .forD p i b, st => match st with
    | .For tg (.Name y _) x [] _ => !k.hot && offB k p.slots && decide (k.N[i]? = some y) && visB k.sc y && okN y && tgOk k p tg && chkB k b x
    | _ => false
  | .raise c es, st => match st with
    | .Raise (some (.Call (.Name y _) (x0 :: xs) [] _)) none _ => !k.hot && decide (y = k.cn c) && glB k.sc y && okN y && (match es with
        | [] => (match x0, xs with
          | .Constant (.str _) _ _, [] => k.xok c
          | _, _ => false)
        | e0 :: er => (x0 :: xs).all noStar1 && k.xi c && chkEs k (e0 :: er) (x0 :: xs))
    | _ => false
  | .tryN b, st => match st with
    | .Try body (h₀ :: hs) [] [] _ => !k.hot && chkB k b body
    | _ => false
  | .try_ b hs, st => match st with
    | .Try x xs [] [] _ => !k.hot && chkB k b x && (!hs.isEmpty && chkH k hs xs)
    | _ => false
  | .pass, st => match st with
    | .Pass _ => true
    | _ => false
  | .brk, st => match st with
    | .Break _ => true
    | _ => false
  | .cont, st => match st with
    | .Continue _ => true
    | _ => false
def chkH (k : Ck) : List Hd → List ExceptHandler → Bool
  | [], [] => true
  | h :: r, x :: xs => chkH1 k h x && chkH k r xs
  | _, _ => false
def chkH1 (k : Ck) : Hd → ExceptHandler → Bool
  | .mk cs slot sui, x => match x with
    | .ExceptHandler (some (.Name y _)) nm (b0 :: suite) _ => (match cs with
        | [d] => decide (y = k.cn d) && glB k.sc y && okN y && k.xok d
        | _ => false) && (match slot, nm with
        | some i, some n => decide (k.N[i]? = some n) && decide (k.sc.names.lookup n = some .local)
        | none, none => true
        | _, _ => false) && chkB { k with hot := true, xsl := slot } sui (b0 :: suite)
    | _ => false
def chkB (k : Ck) : List S → List Stmt → Bool
  | [], [] => true
  | s :: r, x :: xs => chkS k s x && chkB k r xs
  | _, _ => false
end
def Hd.clm (C : Calls) : Hd → Clm
  | .mk cs slot sui => ⟨cs, slot, fun c fs => exB C (some (c, fs)) sui⟩
theorem exH_hdF (C : Calls) (c : Nat) (fs : List (Nat × D)) : ∀ hs : List Hd, exH C c fs hs = hdF C c fs (hs.map (Hd.clm C))
  | [] => by funext ρ h; simp only [exH, hdF, List.map_nil]
  | .mk cs slot sui :: r => by
    funext ρ h
    simp only [exH, hdF, List.map_cons, Hd.clm]
    rw [exH_hdF C c fs r]
theorem sw_no {v : Expr} {t : Option Expr} {l : Nat} {env : Env} (h : isCompX v = false) : swapsWith v t l env = pure false := by
  cases v <;> first | rfl | exact absurd h (by simp [isCompX])
theorem sw_attr {v o : Expr} {f : Str} {p : Pos} {l : Nat} {env : Env} : swapsWith v (some (.Attribute o f p)) l env = pure false := by cases v <;> rfl
theorem sw_sub {v o i : Expr} {p : Pos} {l : Nat} {env : Env} : swapsWith v (some (.Subscript o i p)) l env = pure false := by cases v <;> rfl
theorem sw_subS {v o i : Expr} {p : Pos} {l : Nat} {env : Env} : swapsWithSole [.Subscript o i p] v l env = pure false := by cases v <;> rfl
theorem sw_tupT {v : Expr} {es : List Expr} {k : Nat} {p : Pos} {l : Nat} {env : Env} : swapsWith v (some (.Tuple es k p)) l env = pure false := by cases v <;> rfl
theorem sw_comp {elt : Expr} {gs : List Comprehension} {scope : Scope} {pos py : Pos} {y : Str} {l : Nat} {env : Env} (hk : env.scope.kind = .function) :
    swapsWith (.ListComp elt gs scope pos) (some (.Name y py)) l env = pure (swB env.scope y py.line pos.line scope.names) := by
  have hb : env.blockKind = .function := by unfold Env.blockKind; rw [hk]; rfl
  have hk2 : env.kindOf y = env.scope.names.lookup y := rfl
  unfold swapsWith swB
  simp only [hb, hk2, Expr.pos]
  have e1 : ((ScopeKind.function == ScopeKind.function) : Bool) = true := rfl
  have e2 : (env.scope.names.lookup y == some NameKind.local) = decide (env.scope.names.lookup y = some .local) := by
    by_cases h : env.scope.names.lookup y = some .local
    · rw [h]; rfl
    · simp [h]
  rw [e1, e2, Bool.true_and]
theorem assign_sub {o i : Expr} {pos : Pos} {env : Env} (h : plainIxB i = true) : ∀ v, assign (.Subscript o i pos) env v = (do
      let ov ← holding [v] (eval o env)
      let iv ← holding [v, ov] (eval i env)
      standAt pos
      holding [v, ov, iv] (setItem ov iv v)
      release [v, ov, iv] []) := by
  cases i <;> first | exact fun _ => rfl | exact absurd h (by simp [plainIxB])
theorem stores_no {tg v : Expr} {env : Env} (h : (isNameX tg || !isTupX v) = true) : swappedStores [tg] v env = pure none := by
  cases tg <;> cases v <;> first | rfl | exact absurd h (by simp [isNameX, isTupX])
theorem tg_stores {k : Ck} {p : Pt} {tg : Expr} {env : Env} (h : tgOk k p tg = true) : (assignEach [tg] env).map (·.2) = [assign tg env] := by
  unfold tgOk at h
  split at h
  · rfl
  · rfl
  · cases h
section
variable {G : Gx} {C : Calls} {kk : Nat} {k : Ck} {cur : Cur} {X : Cx} {W : WX}
structure CtxS (G : Gx) (C : Calls) (kk : Nat) (k : Ck) (cur : Cur) (X : Cx) (W : WX) : Prop where
  c : Ctx G C kk k cur X W
  kind : X.env.scope.kind = .function
  pass : cur = none → PassesOwn (model X.prog X.w) X.A X.env X.xe
  stk : cur = none → X.stack = X.env :: X.outer
  frm : cur = none → X.env.frame = some X.env.locals
theorem off_ok {G : Gx} {k : Ck} (hx : k.xsl = G.exs.map fun z => z.1.1) {is : List Nat} (h : offB k is = true) : ∀ i ∈ is, G.off i := fun i hi v w z => by
  have h1 := List.all_eq_true.mp h i hi
  have h2 : ¬ k.xsl = some i := by simpa using h1
  exact h2 (by rw [hx, z]; rfl)
theorem Ctx.wx (c : Ctx G C kk k none X W) (S : Sta G C X.prog X.w X.K X.mg X.base kk) {slot : Option Nat} {d : Nat} {fs : List (Nat × D)} {a : Addr} {oe : Obj} {dx : Option Addr} {pn : List (Addr × Obj)} (xd : C.xok d = true) (hz : Zc (.ref (G.ca d)) dx oe) (hv : ∃ vs, oe.data = .fields vs) (hdx : fs = [] → dx = none) :
    Ctx (G.wx (slot.map fun i => ((i, V.ref a), fs, dx))) C kk { k with hot := true, xsl := slot } (some (d, fs)) (X.suite a ((a, oe) :: pn)) WF where
  N := c.N
  sc := c.sc
  fn := c.fn
  S := fun h => by cases h
  fl := c.fl
  xk := c.xk
  xv := c.xv
  xn := fun h => by cases h
  xsl := by cases slot <;> rfl
  sui := fun d' fs' h => by
    cases h
    refine ⟨xd, fun i v w e => ?_⟩
    cases slot with
    | none => cases e
    | some j =>
      cases e
      exact ⟨rfl, a, rfl, call_isX (S.xc d xd).ec hz hv, fun f hf => fldR_of (S.xl d f hf).1 (S.xl d f hf).2 hz hv⟩
  dp := fun h => by cases h
  tk := fun u s' ⟨a, B, sI, pins, σ, H, cls, d, e, I, nb, up, sky, na, os, ag, w⟩ => w.elim
  room := fun h => by cases h
  units := c.units
  nd := c.nd
  hot := rfl
  calm := fun h => by cases h
  T := ⟨c.T.nm, c.T.gn, c.T.cn, c.T.has, c.T.top, c.T.ini, c.T.gv, c.T.bl, c.T.xok, c.T.xi⟩
  ke := ⟨c.ke.eq⟩
  we := ⟨c.we.eq⟩
theorem Ctx.try_ (c : Ctx G C kk k none X W) {W' : WX} (pn : List (Addr × Obj)) (xe : Value → Shared → Prop) (tk : Takes (X.tr pn xe) W') : Ctx G C kk k none (X.tr pn xe) W' where
  N := c.N
  sc := c.sc
  fn := c.fn
  S := c.S
  fl := c.fl
  xk := c.xk
  xv := c.xv
  xn := c.xn
  xsl := c.xsl
  sui := fun _ _ h => by cases h
  dp := c.dp
  tk := tk
  room := c.room
  units := c.units
  nd := c.nd
  hot := c.hot
  calm := c.calm
  T := c.T
  ke := c.ke
  we := c.we
theorem Ctx.nox (c : Ctx G C kk k none X W) : Ctx G C kk k none X.nox WF where
  N := c.N
  sc := c.sc
  fn := c.fn
  S := c.S
  fl := c.fl
  xk := c.xk
  xv := c.xv
  xn := c.xn
  xsl := c.xsl
  sui := fun _ _ h => by cases h
  dp := c.dp
  tk := takes_xx _
  room := c.room
  units := c.units
  nd := c.nd
  hot := c.hot
  calm := c.calm
  T := c.T
  ke := c.ke
  we := c.we
theorem passes_nox : PassesOwn (model X.prog X.w) X.A X.env X.nox.xe := PassesOwn.never
theorem tg_sw {k : Ck} {p : Pt} {tg v : Expr} {l : Nat} {env : Env} (h : tgOk k p tg = true) (hc : isCompX v = false) : swapsWithSole [tg] v l env = pure false := sw_no hc
theorem snd_setOf (c : CtxS G C kk k cur X W) {p : Pt} {e : E} {tg v : Expr} {pos : Pos} (hof : ∀ i ∈ p.slots, G.off i) (h : (tgOk k p tg && chkE k e v && (if isCompX v then compSet k p e tg v else isNameX tg || !isTupX v)) = true) :
    PS X (.Assign [tg] v pos) (rdS G W fun ρ h => onE ρ (evE C cur e ρ h) fun x h => setP cur p x ρ h) := by
  haveI := c.c.ke; haveI := c.c.we
  simp only [Bool.and_eq_true] at h
  obtain ⟨⟨h1, h2⟩, h3⟩ := h
  have pg := c.c.tg h1
  have pe := (sndE e c.c h2).1
  by_cases hc : isCompX v = true
  · rw [if_pos hc] at h3
    unfold compSet at h3
    split at h3
    · rename_i i mk elt p2 it cond own y py el gs scope pos2
      have e1 := sw_comp (env := X.env) (elt := el) (gs := gs) (scope := scope) (pos := pos2) (y := y) (py := py) (l := pos.line) c.kind
      cases hb : swB X.env.scope y py.line pos2.line scope.names with
      | false =>
        rw [hb] at e1
        exact snd_asg hof pe pg e1 rfl rfl
      | true =>
        rw [hb] at e1
        have hyl : X.env.scope.names.lookup y = some .local := by
          unfold swB at hb
          simp only [Bool.and_eq_true, decide_eq_true_eq] at hb
          exact hb.1.1
        have hi : X.N[i]? = some y := by
          have h1' : (decide (k.N[i]? = some y) && locB k y) = true := h1
          simp only [Bool.and_eq_true, decide_eq_true_eq] at h1'
          rw [c.c.N]; exact h1'.1
        unfold chkE at h2
        split at h2
        · rename_i el3 tg2 iter ifs asy scope3 pos3 e4
          cases e4
          simp only [Bool.and_eq_true, decide_eq_true_eq, Bool.not_eq_true', List.all_eq_true] at h2
          obtain ⟨⟨⟨⟨⟨⟨⟨⟨q0, q1⟩, q2⟩, q3⟩, q4⟩, q5⟩, q6⟩, q7⟩, q8⟩ := h2
          obtain rfl := c.c.cold q0
          subst q1
          have ok : BlkOk X.N X.env.scope scope (ownOf k own) := by rw [c.c.N, c.c.sc]; exact blkOk_by q2
          have eo : (ownOf k own).map (·.2) = own := by
            unfold ownOf
            rw [List.map_map]
            exact List.map_id own
          have key := snd_setLc (G := G) (W := W) (cur := none) (mk := mk) (p := p2) (own := ownOf k own) (pos := pos2) (spos := pos) (py := py) (c.c.xn rfl) (c.c.calm rfl) c.c.nd hi hyl e1 (sndI it (tg := tg2) c.c q6) ok (fun s H A cl fp => (c.c.blk scope s H A cl fp).tg q3)
            (fun s H A cl fp => sndC cond (c.c.blk scope s H A cl fp) q7) (fun s H A cl fp => (sndE elt (c.c.blk scope s H A cl fp) q8).1) (foldOk_ok q4) (fun i hi => by
              rw [eo]
              have := q5 i hi
              simpa using this)
          rw [eo] at key
          exact key
        · cases h2
    · cases h3
  · have hc' : isCompX v = false := by simpa using hc
    rw [if_neg hc] at h3
    exact snd_asg hof pe pg (sw_no hc') (stores_no h3) (tg_stores h1)
end
section
variable {C : Calls} {kk : Nat}
mutual
theorem sndS : ∀ (s : S) {G : Gx} {k : Ck} {cur : Cur} {X : Cx} {W : WX} {st : Stmt}, CtxS G C kk k cur X W → chkS k s st = true → PS X st (rdS G W (exS C cur s))
  | .no, _, _, _, _, _, _, c, _ => haveI := c.c.ke; haveI := c.c.we; snd_noS
  | .set p e, G, k, cur, X, W, st, c, h => by
    haveI := c.c.ke; haveI := c.c.we
    unfold chkS at h
    split at h
    · obtain ⟨h0, h⟩ := Bool.and_eq_true_iff.mp h
      exact snd_setOf c (off_ok c.c.xsl h0) h
    · cases h
  | .setA o f e, G, k, cur, X, W, st, c, h => by
    haveI := c.c.ke; haveI := c.c.we
    unfold chkS at h
    split at h
    · simp only [Bool.and_eq_true, decide_eq_true_eq] at h
      obtain ⟨⟨h1, h2⟩, h3⟩ := h
      rw [c.c.T.nm] at h1
      subst h1
      exact snd_fld c.c.fl (sndE o c.c h2).1 (sndE e c.c h3).1 sw_attr
    · cases h
  | .setI o i e, G, k, cur, X, W, st, c, h => by
    haveI := c.c.ke; haveI := c.c.we
    unfold chkS at h
    split at h
    · simp only [Bool.and_eq_true] at h
      obtain ⟨⟨⟨h1, h2⟩, h3⟩, h4⟩ := h
      exact snd_setI c.c.units (sndE o c.c h2).1 (sndE i c.c h3).1 (sndE e c.c h4).1 sw_subS (assign_sub h1)
    · cases h
  | .aug i op e, G, k, cur, X, W, st, c, h => by
    haveI := c.c.ke; haveI := c.c.we
    unfold chkS at h
    split at h
    · simp only [Bool.and_eq_true, Bool.or_eq_true, decide_eq_true_eq] at h
      obtain ⟨⟨⟨⟨⟨h0, h1⟩, h2⟩, h3⟩, h4⟩, h5⟩ := h
      subst h1
      obtain ⟨l1, l2⟩ := locB_ok c.c.sc c.c.fn h4
      exact snd_aug (off_ok c.c.xsl h0 i (List.mem_cons_self ..)) h2 c.c.nd (by rw [c.c.N]; exact h3) l1 l2 (sndE e c.c h5).1
    · cases h
  | .expr e, G, k, cur, X, W, st, c, h => by
    haveI := c.c.ke; haveI := c.c.we
    unfold chkS at h
    split at h
    · simp only [Bool.and_eq_true, Bool.not_eq_true'] at h
      exact snd_expr (sndE e c.c h.2).1 (sw_no h.1)
    · cases h
  | .ret e, G, k, cur, X, W, st, c, h => by
    haveI := c.c.ke; haveI := c.c.we
    unfold chkS at h
    split at h
    · exact snd_ret (sndE e c.c h).1
    · cases h
  | .retN, G, k, cur, X, W, st, c, h => by
    haveI := c.c.ke; haveI := c.c.we
    unfold chkS at h
    split at h
    · exact snd_retN
    · cases h
  | .ite d a b, G, k, cur, X, W, st, c, h => by
    haveI := c.c.ke; haveI := c.c.we
    unfold chkS at h
    split at h
    · simp only [Bool.and_eq_true] at h
      obtain ⟨⟨⟨h1, h2⟩, h3⟩, h4⟩ := h
      exact snd_ite ((sndE d c.c h1).2 h2) (sndSs a c h3) (sndSs b c h4)
    · cases h
  | .whil d b, G, k, cur, X, W, st, c, h => by
    haveI := c.c.ke; haveI := c.c.we
    unfold chkS at h
    split at h
    · simp only [Bool.and_eq_true, Bool.not_eq_true'] at h
      obtain ⟨⟨⟨h0, h1⟩, h2⟩, h3⟩ := h
      obtain rfl := c.c.cold h0
      exact snd_while (c.pass rfl) ((sndE d c.c h1).2 h2) (sndSs b c h3)
    · cases h
  | .forr p it b, G, k, cur, X, W, st, c, h => by
    haveI := c.c.ke; haveI := c.c.we
    unfold chkS at h
    split at h
    · simp only [Bool.and_eq_true, Bool.not_eq_true'] at h
      obtain ⟨⟨⟨⟨⟨h0, hof⟩, h1⟩, h2⟩, h3⟩, h4⟩ := h
      obtain rfl := c.c.cold h0
      exact snd_for (off_ok c.c.xsl hof) (c.pass rfl) (c.c.calm rfl) (sndI it c.c h3) (c.c.tg h2) (sndSs b c h4) (foldOk_ok h1)
    · cases h
  | .forD p i b, G, k, cur, X, W, st, c, h => by
    haveI := c.c.ke; haveI := c.c.we
    unfold chkS at h
    split at h
    · simp only [Bool.and_eq_true, Bool.not_eq_true', decide_eq_true_eq] at h
      obtain ⟨⟨⟨⟨⟨⟨h0, hof⟩, h1⟩, h2⟩, h5⟩, h3⟩, h4⟩ := h
      obtain rfl := c.c.cold h0
      obtain ⟨n1, n2⟩ := okN_ok h5
      exact snd_forD (c.c.xn rfl) (off_ok c.c.xsl hof) (c.pass rfl) (c.c.calm rfl) (pe_var (by rw [c.c.N]; exact h1) (visB_ok c.c.sc h2) n1 n2) (c.c.tg h3) (sndSs b c h4) (fun _ => rfl)
    · cases h
  | .raise d es, G, k, cur, X, W, st, c, h => by
    haveI := c.c.ke; haveI := c.c.we
    unfold chkS at h
    split at h
    · simp only [Bool.and_eq_true, decide_eq_true_eq, Bool.not_eq_true'] at h
      obtain ⟨⟨⟨⟨h0, h2⟩, h4⟩, h5⟩, h6⟩ := h
      obtain rfl := c.c.cold h0
      rw [c.c.T.cn] at h2
      subst h2
      cases es with
      | nil =>
        dsimp only at h6
        split at h6
        · obtain ⟨xd, _⟩ := c.c.T.xok d h6
          have e : exS C none (.raise d []) = fun ρ h => raiseD C d [] ρ h := rfl
          rw [e]
          unfold raiseD
          cases hx : C.xf d with
          | nil =>
            dsimp only
            rw [xd]
            exact snd_raise ((c.c.S rfl).xc d xd) ((c.c.S rfl).xb d xd hx) (c.c.calm rfl) c.c.tk (glB_ok c.c.sc h4) (okN_ok h5).1
          | cons a r =>
            dsimp only
            exact snd_noS
        · cases h6
      | cons e0 er =>
        simp only [Bool.and_eq_true] at h6
        obtain ⟨⟨h7, h8⟩, h9⟩ := h6
        have e : exS C none (.raise d (e0 :: er)) = fun ρ h => onE ρ (evEs C none (e0 :: er) ρ h) fun xs h => raiseD C d xs ρ h := rfl
        rw [e]
        exact snd_raiseF ((c.c.S rfl).xi d (c.c.T.xi d h8)) (c.c.room rfl) (c.c.calm rfl) c.c.tk (glB_ok c.c.sc h4) (okN_ok h5).1 (sndEs (e0 :: er) c.c h9 h7) h7
    · cases h
  | .tryN b, G, k, cur, X, W, st, c, h => by
    haveI := c.c.ke; haveI := c.c.we
    unfold chkS at h
    split at h
    · simp only [Bool.and_eq_true, Bool.not_eq_true'] at h
      obtain ⟨h0, h1⟩ := h
      obtain rfl := c.c.cold h0
      refine PS.imp (ps_try_thru0 (sndSs b (W := WF) ⟨c.c.nox, c.kind, fun _ => passes_nox, c.stk, c.frm⟩ h1)) fun D σ H ⟨s, ρ, e, R, ev, p⟩ => ⟨s, ρ, e, R, ev, ?_⟩
      have p : PostS G W s (quietS (exB C none b ρ s.h)) D := p
      show PostS G WF s (exB C none b ρ s.h) D
      cases hr : exB C none b ρ s.h with
      | ok f ρ1 h1 => rw [hr] at p; exact p
      | exc c fs ρ1 h1 => rw [hr] at p; exact p.elim
      | stuck => rw [hr] at p; exact p.elim
    · cases h
  | .try_ b hs, G, k, cur, X, W, st, c, h => by
    haveI := c.c.ke; haveI := c.c.we
    unfold chkS at h
    split at h
    · rename_i x xs pos
      simp only [Bool.and_eq_true, Bool.not_eq_true'] at h
      obtain ⟨⟨h0, h1⟩, h2, h3⟩ := h
      obtain rfl := c.c.cold h0
      have ek : exS C none (.try_ b hs) = fun ρ h => tryS (exB C none b ρ h) fun c fs ρ h => hdF C c fs (hs.map (Hd.clm C)) ρ h := by
        funext ρ h
        simp only [exS, Option.isSome_none, Bool.false_eq_true, if_false]
        congr 1
        funext c fs
        rw [exH_hdF]
      rw [ek]
      have hcl := sndH hs c h3
      cases xs with
      | nil =>
        cases hs with
        | nil => cases h2
        | cons _ _ => simp [chkH] at h3
      | cons x0 xs => exact snd_try_many (c.c.xn rfl) (c.stk rfl) (c.frm rfl) c.c.nd c.c.tk (fun W' pn xe tk ps => sndSs b ⟨c.c.try_ pn xe tk, c.kind, fun _ => ps, c.stk, c.frm⟩ h1) hcl
    · cases h
  | .pass, G, k, cur, X, W, st, c, h => by
    haveI := c.c.ke; haveI := c.c.we
    unfold chkS at h
    split at h
    · exact snd_pass
    · cases h
  | .brk, G, k, cur, X, W, st, c, h => by
    haveI := c.c.ke; haveI := c.c.we
    unfold chkS at h
    split at h
    · exact snd_brk
    · cases h
  | .cont, G, k, cur, X, W, st, c, h => by
    haveI := c.c.ke; haveI := c.c.we
    unfold chkS at h
    split at h
    · exact snd_cont
    · cases h
theorem sndH : ∀ (hs : List Hd) {G : Gx} {k : Ck} {X : Cx} {W : WX} {xs : List ExceptHandler}, CtxS G C kk k none X W → chkH k hs xs = true → ClmsOk X G C (hs.map (Hd.clm C)) xs
  | [], _, _, _, _, [], _, _ => .nil
  | hd :: r, G, k, X, W, x :: xs, c, h => by
    unfold chkH at h
    simp only [Bool.and_eq_true] at h
    exact .cons (sndH1 hd c h.1) (sndH r c h.2)
  | [], _, _, _, _, _ :: _, _, h => by simp [chkH] at h
  | _ :: _, _, _, _, _, [], _, h => by simp [chkH] at h
theorem sndH1 : ∀ (hd : Hd) {G : Gx} {k : Ck} {X : Cx} {W : WX} {xh : ExceptHandler}, CtxS G C kk k none X W → chkH1 k hd xh = true → ClmOk X G C (hd.clm C) xh
  | .mk cs slot sui, G, k, X, W, xh, c, h => by
    haveI := c.c.ke; haveI := c.c.we
    unfold chkH1 at h
    split at h
    · rename_i y np nm b0 suite pos'
      simp only [Bool.and_eq_true] at h
      obtain ⟨⟨h1, h2⟩, h3⟩ := h
      split at h1
      · rename_i d
        simp only [Bool.and_eq_true, decide_eq_true_eq] at h1
        obtain ⟨⟨⟨e1, g1⟩, o1⟩, x1⟩ := h1
        rw [c.c.T.cn] at e1
        subst e1
        obtain ⟨xd, xg⟩ := c.c.T.xok d x1
        have S := c.c.S rfl
        refine ⟨d, nm, b0, suite, np, pos', rfl, rfl, fun c' hc' hd' => PySem.W.exm_ref (S.xc d hd').sb (S.xc d hd').ec.hd (S.xc d hd').ty (S.xs c' d hc' hd').1, ⟨glB_ok c.c.sc g1, (okN_ok o1).1, .inl xg⟩, ?_, fun c' fs a oe dx pn hx hz hv hdx =>
          sndSs sui ⟨c.c.wx S hx hz hv hdx, c.kind, (by intro z; cases z), (by intro z; cases z), (by intro z; cases z)⟩ h3⟩
        unfold Hd.clm
        dsimp only
        split at h2
        · rename_i i n
          simp only [Bool.and_eq_true, decide_eq_true_eq] at h2
          exact ⟨by rw [c.c.N]; exact h2.1, by unfold Env.kindOf; rw [c.c.sc]; exact h2.2⟩
        · trivial
        · cases h2
      · cases h1
    · cases h
theorem sndSs : ∀ (s : List S) {G : Gx} {k : Ck} {cur : Cur} {X : Cx} {W : WX} {st : List Stmt}, CtxS G C kk k cur X W → chkB k s st = true → PSs X st (rdS G W (exB C cur s))
  | [], _, _, _, _, _, [], c, _ => haveI := c.c.ke; haveI := c.c.we; snd_nilS
  | s :: r, G, k, cur, X, W, x :: xs, c, h => by
    haveI := c.c.ke; haveI := c.c.we
    unfold chkB at h
    simp only [Bool.and_eq_true] at h
    exact snd_consS (sndS s c h.1) (sndSs r c h.2)
  | [], _, _, _, _, _, _ :: _, _, h => by cases h
  | _ :: _, _, _, _, _, _, [], _, h => by cases h
end
end
end L2.Mini
set_option Elab.async false
set_option linter.all false
set_option maxRecDepth 100000
set_option maxHeartbeats 2000000
/-! Mini, part 16: the table of the defs. -/
namespace L2.Mini
open PySem PySem.Spec PyProof.Rows

/-! ### behind a call what was made is dropped -/
/-- the nodes from n0 on are forgotten -/
def Sx.drop (s : Sx) (n0 : Nat) : Sx := ⟨fun n => if n < n0 then s.am n else none, s.h.take n0, s.H, s.ex⟩
section
variable {G : Gx}
theorem drop_L {s : Sx} {n0 : Nat} {p : Addr} (h : (s.drop n0).L p) : s.L p := by
  rcases h with h | ⟨n, nd, a, e, k⟩
  · exact .inl h
  · have a' : (if n < n0 then s.am n else none) = some p := a
    split at a'
    · rename_i hn
      have e' : (s.h.take n0)[n]? = some nd := e
      rw [List.getElem?_take_of_lt hn] at e'
      exact .inr ⟨n, nd, a', e', k⟩
    · cases a'
mutual
theorem RV.gone {s : Sx} {n0 : Nat} : ∀ {d : D} {v : V}, s.RV G d v → below n0 d = true → (s.drop n0).RV G d v
  | .non, _, h, _ => h
  | .bl _, _, h, _ => h
  | .int _, _, h, _ => h
  | .str _, _, h, _ => h
  | .tup xs, v, ⟨p, us, e, r, k, q⟩, b => ⟨p, us, e, r, fun z => k (drop_L z), RVs.gone q b⟩
  | .lst xs, v, ⟨p, us, e, r, k, q⟩, b => ⟨p, us, e, r, fun z => k (drop_L z), RVs.gone q b⟩
  | .scr xs, v, ⟨p, us, e, r, q⟩, b => ⟨p, us, e, r.imp (fun ⟨r, k⟩ => ⟨r, fun z => k (drop_L z)⟩) id, RVs.gone q b⟩
  | .ref n, v, ⟨p, e, a⟩, b => ⟨p, e, by
    have hn : n < n0 := of_decide_eq_true b
    show (if n < n0 then s.am n else none) = some p
    rw [if_pos hn]; exact a⟩
  | .ins c fs, v, ⟨p, dx, us, e, r, k, q⟩, b => ⟨p, dx, us, e, r, fun z => k (drop_L z), RFs.gone q b⟩
theorem RVs.gone {s : Sx} {n0 : Nat} : ∀ {d : List D} {v : List V}, s.RVs G d v → belows n0 d = true → (s.drop n0).RVs G d v
  | [], _, h, _ => h
  | x :: xs, _, ⟨u, r, e, a, b⟩, q => by
    have q' : (below n0 x && belows n0 xs) = true := q
    simp only [Bool.and_eq_true] at q'
    exact ⟨u, r, e, RV.gone a q'.1, RVs.gone b q'.2⟩
theorem RFs.gone {s : Sx} {n0 : Nat} : ∀ {d : List (Nat × D)} {v : List (Str × V)}, s.RFs G d v → belowF n0 d = true → (s.drop n0).RFs G d v
  | [], _, h, _ => h
  | (f, x) :: xs, _, ⟨u, r, e, a, b⟩, q => by
    have q' : (below n0 x && belowF n0 xs) = true := q
    simp only [Bool.and_eq_true] at q'
    exact ⟨u, r, e, RV.gone a q'.1, RFs.gone b q'.2⟩
end
theorem RTs.gone {s : Sx} {n0 : Nat} : ∀ {d : List (D × D)} {v : List (NestedKey × Addr × Value)}, s.RTs G d v → (d.all fun p => below n0 p.1 && below n0 p.2) = true → (s.drop n0).RTs G d v
  | [], _, h, _ => h
  | (k, x) :: xs, _, ⟨nk, p, u, r, e, hk, kd, a, ⟨v, b1, b2⟩, c⟩, q => by
    rw [List.all_cons] at q
    obtain ⟨q1, q2⟩ := Bool.and_eq_true_iff.mp q
    obtain ⟨q3, q4⟩ := Bool.and_eq_true_iff.mp q1
    exact ⟨nk, p, u, r, e, hk, kd, RV.gone a q3, ⟨v, RV.gone b1 q4, b2⟩, RTs.gone c q2⟩
theorem RKs.gone {s : Sx} {n0 : Nat} : ∀ {d : List (D × D)} {v : List (Key × V)}, s.RKs G d v → (d.all fun p => below n0 p.1 && below n0 p.2) = true → (s.drop n0).RKs G d v
  | [], _, h, _ => h
  | (k, x) :: xs, _, ⟨kk, u, r, e, hk, a, b⟩, q => by
    rw [List.all_cons] at q
    obtain ⟨q1, q2⟩ := Bool.and_eq_true_iff.mp q
    exact ⟨kk, u, r, e, hk, RV.gone a (Bool.and_eq_true_iff.mp q1).2, RKs.gone b q2⟩
mutual
theorem isP_below {n0 : Nat} : ∀ {d : D}, isP d = true → below n0 d = true
  | .non, _ => rfl | .bl _, _ => rfl | .int _, _ => rfl | .str _, _ => rfl
  | .tup xs, h => isPs_below (xs := xs) h
  | .lst xs, h => isPs_below (xs := xs) h
  | .scr xs, h => isPs_below (xs := xs) h
  | .ref _, h => by cases h
  | .ins _ fs, h => isPF_below (fs := fs) h
theorem isPs_below {n0 : Nat} : ∀ {xs : List D}, isPs xs = true → belows n0 xs = true
  | [], _ => rfl
  | x :: xs, h => by
    have h' : (isP x && isPs xs) = true := h
    simp only [Bool.and_eq_true] at h'
    show (below n0 x && belows n0 xs) = true
    rw [isP_below h'.1, isPs_below h'.2]; rfl
theorem isPF_below {n0 : Nat} : ∀ {fs : List (Nat × D)}, isPF fs = true → belowF n0 fs = true
  | [], _ => rfl
  | (f, x) :: xs, h => by
    have h' : (isP x && isPF xs) = true := h
    simp only [Bool.and_eq_true] at h'
    show (below n0 x && belowF n0 xs) = true
    rw [isP_below h'.1, isPF_below h'.2]; rfl
end
theorem isPF_get {f : Nat} {x : D} : ∀ {fs : List (Nat × D)}, isPF fs = true → getF fs f = some x → isP x = true
  | [], _, h => by simp [getF] at h
  | (g, y) :: fs, q, h => by
    have q' : (isP y && isPF fs) = true := q
    simp only [Bool.and_eq_true] at q'
    unfold getF at h
    rw [List.lookup_cons] at h
    split at h
    · cases h; exact q'.1
    · exact isPF_get q'.2 h
mutual
/-- what stands in a state means its nodes alone -/
theorem RV.below {s : Sx} (R : REL G s) : ∀ {d : D} {v : V}, s.RV G d v → Mini.below s.h.length d = true
  | .non, _, _ => rfl | .bl _, _, _ => rfl | .int _, _, _ => rfl | .str _, _, _ => rfl
  | .tup xs, v, ⟨_, _, _, _, _, q⟩ => RVs.below R q
  | .lst xs, v, ⟨_, _, _, _, _, q⟩ => RVs.below R q
  | .scr xs, v, ⟨_, _, _, _, q⟩ => RVs.below R q
  | .ref n, v, ⟨p, _, a⟩ => decide_eq_true (R.cod n p a)
  | .ins _ fs, v, ⟨_, _, _, _, _, _, q⟩ => RFs.below R q
theorem RVs.below {s : Sx} (R : REL G s) : ∀ {d : List D} {v : List V}, s.RVs G d v → belows s.h.length d = true
  | [], _, _ => rfl
  | x :: xs, _, ⟨u, r, e, a, b⟩ => by
    show (Mini.below _ x && belows _ xs) = true
    rw [RV.below R a, RVs.below R b]; rfl
theorem RFs.below {s : Sx} (R : REL G s) : ∀ {d : List (Nat × D)} {v : List (Str × V)}, s.RFs G d v → belowF s.h.length d = true
  | [], _, _ => rfl
  | (f, x) :: xs, _, ⟨u, r, e, a, b⟩ => by
    show (Mini.below _ x && belowF _ xs) = true
    rw [RV.below R a, RFs.below R b]; rfl
end
theorem RKs.below {s : Sx} (R : REL G s) : ∀ {d : List (D × D)} {v : List (Key × V)}, s.RKs G d v → (d.all fun p => Mini.below s.h.length p.1 && Mini.below s.h.length p.2) = true
  | [], _, _ => rfl
  | (k, x) :: xs, _, ⟨kk, u, r, e, hk, a, b⟩ => by
    rw [List.all_cons, RKs.below R b, RV.below R a]
    cases k <;> first | rfl | cases hk
theorem RTs.below {s : Sx} (R : REL G s) : ∀ {d : List (D × D)} {v : List (NestedKey × Addr × Value)}, s.RTs G d v → (d.all fun p => Mini.below s.h.length p.1 && Mini.below s.h.length p.2) = true
  | [], _, _ => rfl
  | (k, x) :: xs, _, ⟨nk, p, u, r, e, hk, kd, a, ⟨v, b1, _⟩, c⟩ => by
    rw [List.all_cons, RTs.below R c, RV.below R a, RV.below R b1]
    rfl
theorem NR.below {s : Sx} (R : REL G s) {n : Nat} {nd : Node} (e : s.h[n]? = some nd) : belowN s.h.length nd = true := by
  obtain ⟨p, a⟩ := R.dom n (List.getElem?_eq_some_iff.mp e).1
  have h := R.node n nd p e a
  cases nd with
  | lst xs => obtain ⟨us, _, r⟩ := h; exact RVs.below R r
  | ins c fs => obtain ⟨dx, us, _, r⟩ := h; exact RFs.below R r
  | dic _ => obtain ⟨us, _, r⟩ := h; exact RKs.below R r
  | dead => rfl
  | dit _ => obtain ⟨us, _, r, _⟩ := h; exact RTs.below R r
/-- the check of gcD -/
def gcOk (h0 h : Hm) : Prop := h.take h0.length = h0 ∨ (h.take h0.length).all (belowN h0.length) = true
theorem gc_below {s s2 : Sx} (R : REL G s) (h : gcOk s.h s2.h) {n : Nat} {nd : Node} (hn : n < s.h.length) (e : s2.h[n]? = some nd) : belowN s.h.length nd = true := by
  have e' : (s2.h.take s.h.length)[n]? = some nd := by rw [List.getElem?_take_of_lt hn]; exact e
  rcases h with h | h
  · rw [h] at e'
    exact NR.below R e'
  · exact List.all_eq_true.mp h nd (List.mem_of_getElem? e')
theorem REL.drop {s s2 : Sx} (R : REL G s) (t : TR s s2) (R2 : REL G s2) (h : gcOk s.h s2.h) : REL G (s2.drop s.h.length) ∧ TR s (s2.drop s.h.length) := by
  have hle : s.h.length ≤ s2.h.length := by
    by_cases h0 : s.h.length = 0
    · omega
    · obtain ⟨p, a⟩ := R.dom (s.h.length - 1) (by omega)
      have := R2.cod _ p (t.al _ p a)
      omega
  have at_ : ∀ n, n < s.h.length → (s2.drop s.h.length).am n = s2.am n := fun n hn => if_pos hn
  have out : ∀ n p, (s2.drop s.h.length).am n = some p → n < s.h.length ∧ s2.am n = some p := fun n p a => by
    have a' : (if n < s.h.length then s2.am n else none) = some p := a
    split at a'
    · exact ⟨by assumption, a'⟩
    · cases a'
  refine ⟨⟨fun n hn => ?_, fun n p a => ?_, fun n m p a b => ?_, fun n nd p e a => ?_, fun n p a => R2.there n p (out n p a).2, R2.exT, fun n p a => R2.exN n p (out n p a).2⟩, ?_⟩
  · have hn' : n < (s2.h.take s.h.length).length := hn
    rw [List.length_take] at hn'
    obtain ⟨p, a⟩ := R2.dom n (by omega)
    exact ⟨p, by rw [at_ n (by omega)]; exact a⟩
  · show n < (s2.h.take s.h.length).length
    rw [List.length_take]
    have := (out n p a).1
    omega
  · exact R2.inj n m p (out n p a).2 (out m p b).2
  · obtain ⟨hn, a2⟩ := out n p a
    have e' : (s2.h.take s.h.length)[n]? = some nd := e
    rw [List.getElem?_take_of_lt hn] at e'
    have hb := gc_below R h hn e'
    have nr := R2.node n nd p e' a2
    cases nd with
    | lst xs => obtain ⟨us, h1, r⟩ := nr; exact ⟨us, h1, RVs.gone r hb⟩
    | ins c fs => obtain ⟨dx, us, h1, r⟩ := nr; exact ⟨dx, us, h1, RFs.gone r hb⟩
    | dic _ => obtain ⟨us, h1, r⟩ := nr; exact ⟨us, h1, RKs.gone r hb⟩
    | dead => trivial
    | dit _ => obtain ⟨us, h1, r, h3⟩ := nr; exact ⟨us, h1, RTs.gone r hb, h3⟩
  · refine ⟨fun n p a => ?_, fun p o e k => ?_, fun p z => t.exk p z⟩
    · rw [at_ n (R.cod n p a)]; exact t.al n p a
    · obtain ⟨e2, k2⟩ := t.keep p o e k
      exact ⟨e2, fun z => k2 (drop_L z)⟩
theorem Post.gc {W : WX} {σ : St} {s : Sx} {r : Res D} {Q : VK} (R : REL G s) (p : Post G W σ (rV G) s (gcD s.h r) Q) : Post G W σ (rV G) s r Q := by
  cases r with
  | ok d h =>
    unfold gcD at p
    dsimp only at p
    split at p
    · rename_i hc
      intro s2 v e t R2 q
      subst e
      obtain ⟨R3, t3⟩ := R.drop t R2 hc.2
      exact p (s2.drop s.h.length) v rfl t3 R3 (RV.gone q (isP_below hc.1))
    · exact p
  | exc c fs h =>
    unfold gcD at p
    dsimp only at p
    split at p
    · rename_i hc
      intro s2 dx e t R2 x
      subst e
      obtain ⟨R3, t3⟩ := R.drop t R2 hc.2
      refine p (s2.drop s.h.length) dx rfl t3 R3 ?_
      rcases x with x | ⟨d, us, nf, e1, e2, k, q⟩
      · exact .inl x
      · exact .inr ⟨d, us, nf, e1, e2, fun z => k (drop_L z), fun f x hx => let ⟨u, h1, h2⟩ := q f x hx; ⟨u, h1, RV.gone h2 (isP_below (isPF_get hc.1 hx))⟩⟩
    · exact p
  | stuck => exact p

/-! ### a def's body -/
theorem start_ev {s : Sx} {N : List Str} (hx : G.exs = none) : ∀ {xs : List D} {vs : List V}, s.RVs G xs vs → EV G s (xs.map some ++ List.replicate (N.length - xs.length) none) (start N vs) := fun {xs vs} r => by
  have hl := RVs.length r
  refine ⟨by simp [start, hl], fun i d h => ?_, fun i v w h => by rw [hx] at h; cases h⟩
  by_cases hi : i < xs.length
  · rw [List.getElem?_append_left (by simpa using hi), List.getElem?_map] at h
    cases e : xs[i]? with
    | none => rw [e] at h; cases h
    | some x =>
      rw [e] at h; cases h
      obtain ⟨u, h1, h2⟩ := RVs.get r e
      refine ⟨u, ?_, h2⟩
      unfold start
      rw [List.getElem?_append_left (by simp [← hl]; exact hi), List.getElem?_map, h1]
      rfl
  · rw [List.getElem?_append_right (by simpa using hi), List.getElem?_replicate] at h
    split at h <;> cases h
theorem endR_ok {E : XK} {s : Sx} {r : SRes} {Q : VK} (p : Post G (fun c d _ H' => E c d H') [] (rV G) s (endR r) Q) : PostS G (fun c d _ H' => E c d H') s r { nx := fun _ H' => Q .non H', rt := Q } := by
  cases r with
  | ok f ρ h =>
    cases f with
    | next => exact fun s' σ e t R ev => p s' .non e t R rfl
    | brk => exact p.elim
    | cont => exact p.elim
    | ret d => exact fun s' σ e t R ev v q => p s' v e t R q
  | exc c fs ρ h => exact fun s' σ dx e t R ev x => p s' dx e t R x
  | stuck => exact p.elim
end

/-! ### the program as data -/
structure DefD where
  name : Str
  qual : Str
  st : Stmt
  N : List Str
  ps : List Str
  fn : Fn
  /-- what the last parameters are where they are not written -/
  dflt : List Cst := []
/-- a def as it stands behind the top, with defaults or none -/
structure FunA (K : PySem.W.Frag) (x qual : Str) (st : Stmt) (f : Addr) (fd : FuncData) : Prop where
  ex : ∃ (oc : Value) (od : Option Addr) (dV kV doc pm : Value) (an : Option Addr) (cdv ct : Value) (osl : Array (Option Value)),
    fd = PySem.W.fnOf x qual (defArgs st) (defBody st) (defScope st) dV kV doc pm an cdv ct ∧ K.lookup f = some ⟨oc, od, .func fd, osl⟩ ∧ PySem.W.codeIn K cdv qual = true
  kp : PySem.W.keepIn K (.ref f) = true
theorem L2.Fun.a {K : PySem.W.Frag} {x qual : Str} {st : Stmt} {f : Addr} {fd : FuncData} (F : L2.Fun K x qual st f fd) : FunA K x qual st f fd := by
  obtain ⟨oc, od, kV, doc, pm, an, cdv, ct, osl, h1, h2, h3⟩ := F.ex
  exact ⟨⟨oc, od, _, kV, doc, pm, an, cdv, ct, osl, h1, h2, h3⟩, F.kp⟩
theorem L2.FunD.a {K : PySem.W.Frag} {x qual : Str} {st : Stmt} {f : Addr} {fd : FuncData} {dvs : List V} {kws : List (Str × V)} (F : L2.FunD K x qual (defArgs st) (defBody st) (defScope st) dvs kws f fd) : FunA K x qual st f fd := by
  obtain ⟨oc, od, dV, kV, doc, pm, an, cdv, ct, osl, h1, h2, h3, _, _⟩ := F.ex
  exact ⟨⟨oc, od, dV, kV, doc, pm, an, cdv, ct, osl, h1, h2, h3⟩, F.kp⟩
/-- a def with one default -/
theorem dfl_fun {K : PySem.W.Frag} {x qual : Str} {st : Stmt} {f dt : Addr} {oc kV doc pm cdv ct c2 u : Value} {od an d2 : Option Addr} {osl s2 : Array (Option Value)} {n2 : Nat} {v : V}
    (l : K.lookup f = some ⟨oc, od, .func (PySem.W.fnOf x qual (defArgs st) (defBody st) (defScope st) (.ref dt) kV doc pm an cdv ct), osl⟩) (lt : K.lookup dt = some ⟨c2, d2, .seq #[u] n2, s2⟩)
    (hc : PySem.W.codeIn K cdv qual = true) (kp : PySem.W.keepIn K (.ref f) = true) (r : RelV v u) : L2.FunD K x qual (defArgs st) (defBody st) (defScope st) [v] [] f (PySem.W.fnOf x qual (defArgs st) (defBody st) (defScope st) (.ref dt) kV doc pm an cdv ct) :=
  ⟨⟨oc, od, _, kV, doc, pm, an, cdv, ct, osl, rfl, l, hc, .inr ⟨by simp, dt, _, [u], n2, rfl, lt, rfl, .cons r .nil⟩, .inl rfl⟩, kp⟩
/-- every parameter is written, or all but the last -/
theorem binds_all {K : PySem.W.Frag} {x qual : Str} {params : Arguments} {body : List Stmt} {scope : Scope} {v : V} {f : Addr} {fd : FuncData} {ps : List Str} (G : L2.FunD K x qual params body scope [v] [] f fd) {n : Nat} (hn : n = ps.length)
    (h : ∀ (T : Addr) (kV doc pm : Value) (an : Option Addr) (cdv ct : Value) (us its : List Value), us.length = n → its.length = 1 →
      ∃ k, bindArgs (PySem.W.fnOf x qual params body scope (.ref T) kV doc pm an cdv ct) ⟨us, []⟩ = seqItems? (.ref T) >>= k ∧ k (some its.toArray) = pure (ps.zip (us ++ its.drop 1))) : Binds K fd ps [] := by
  obtain ⟨ds, h1, h2⟩ := G.binds1 n 1 (by simp) (by simpa using hn) h
  cases h1
  exact h2
theorem binds_dfl {K : PySem.W.Frag} {x qual : Str} {params : Arguments} {body : List Stmt} {scope : Scope} {c : Cst} {f : Addr} {fd : FuncData} {ps : List Str} (G : L2.FunD K x qual params body scope [c.v] [] f fd) {n : Nat} (hn : n + 1 = ps.length)
    (h : ∀ (T : Addr) (kV doc pm : Value) (an : Option Addr) (cdv ct : Value) (us its : List Value), us.length = n → its.length = 1 →
      ∃ k, bindArgs (PySem.W.fnOf x qual params body scope (.ref T) kV doc pm an cdv ct) ⟨us, []⟩ = seqItems? (.ref T) >>= k ∧ k (some its.toArray) = pure (ps.zip (us ++ its.drop 0))) : ∃ us, Vals ([c].map Cst.v) us ∧ Binds K fd ps us :=
  G.binds1 n 0 (by simp) (by simpa using hn) h
theorem FunA.okX {P : Program} {w : World} {K : PySem.W.Frag} {mg : Str → Option Value} {base : Heap} {x qual : Str} {st : Stmt} {f : Addr} {fd : FuncData} {N ps : List Str} {k : Nat} {sp : Sp} (F : FunA K x qual st f fd) (S : FnScope N ps (defScope st)) (len : ∀ vs H Q E, sp vs H Q E → vs.length = ps.length)
    (hbody : ∀ (cdv : Value) (A : Around) (outer : List Env) (s : Shared) (H : Hp) (vs : List V) (Q : VK) (E : XK), Room k (A.deeper (envOfC qual (defScope st) s.heap.objs.size f cdv)) → sp vs H Q E →
      ∃ t, PSs (cxOf (L2.CX P w) P w K mg base N qual (defScope st) f cdv A outer s H E) (defBody st) t ∧ t { nx := fun _ H' => Q .non H', rt := Q } (start N vs) H) : FnOk P w K mg base (L2.CX P w) (k + 1) f fd ps sp := by
  obtain ⟨oc, od, dV, kV, doc, pm, an, cdv, ct, osl, rfl, lk, hcd⟩ := F.ex
  exact fn_of lk hcd S len fun A outer s H vs Q E hr hsp => hbody cdv A outer s H vs Q E hr hsp
structure Base where
  mt : Nat → Nat → Option Nat
  ini : Nat → Option Nat
  sub : Nat → Nat → Bool
  xf : Nat → List Nat
  fl : Nat → Nat → Bool
  xok : Nat → Bool
  /-- a def may be called with these defaults -/
  df : Nat → List Cst → Bool := fun _ _ => false
  /-- the def that is an exception class's own __init__ -/
  xini : Nat → Option Nat := fun _ => none
  fuel : Nat
structure Prg where
  defs : List DefD
  nm : Nat → Str
  gn : Nat → Str
  cn : Nat → Str
  gk : Nat → Str
  gv : Nat → Option Cst
  top : Nat → Bool
  B : Base
def below? (n : Nat) : Option Nat → Option Nat
  | some i => if i < n then some i else none
  | none => none
def mkC (B : Base) (fns : Nat → Fn) : Nat → Calls
  | 0 => { has := fun _ => false, fn := fun _ _ _ => .stuck, mt := fun _ _ => none, ini := fun _ => none, sub := B.sub, xf := B.xf, fl := B.fl, xok := B.xok, df := fun i ds => ds.isEmpty || B.df i ds, xi := fun _ => false, fuel := B.fuel }
  | n + 1 => { has := fun i => decide (i < n + 1), fn := fun i => if i = n then runF (mkC B fns n) (fns n) else (mkC B fns n).fn i, mt := fun c m => below? (n + 1) (B.mt c m), ini := fun c => below? (n + 1) (B.ini c), sub := B.sub, xf := B.xf, fl := B.fl, xok := B.xok, df := fun i ds => ds.isEmpty || B.df i ds, xi := fun c => (B.xini c).isSome, fuel := B.fuel }
theorem mkC_fn {B : Base} {fns : Nat → Fn} : ∀ {n i : Nat}, i < n → (mkC B fns n).fn i = runF (mkC B fns i) (fns i)
  | 0, _, h => absurd h (Nat.not_lt_zero _)
  | n + 1, i, h => by
    show (if i = n then runF (mkC B fns n) (fns n) else (mkC B fns n).fn i) = _
    by_cases e : i = n
    · subst e; rw [if_pos rfl]
    · rw [if_neg e]
      exact mkC_fn (by omega)
theorem mkC_has {B : Base} {fns : Nat → Fn} {i : Nat} : ∀ {n : Nat}, (mkC B fns n).has i = decide (i < n)
  | 0 => by simp [mkC]
  | n + 1 => rfl
theorem mkC_mt {B : Base} {fns : Nat → Fn} {c m i : Nat} : ∀ {n : Nat}, (mkC B fns n).mt c m = some i → B.mt c m = some i ∧ i < n
  | 0, h => by cases h
  | n + 1, h => by
    have h' : below? (n + 1) (B.mt c m) = some i := h
    unfold below? at h'
    split at h'
    · rename_i j e
      split at h'
      · cases h'
        exact ⟨e, by assumption⟩
      · cases h'
    · cases h'
theorem mkC_ini {B : Base} {fns : Nat → Fn} {c i : Nat} : ∀ {n : Nat}, (mkC B fns n).ini c = some i → B.ini c = some i ∧ i < n
  | 0, h => by cases h
  | n + 1, h => by
    have h' : below? (n + 1) (B.ini c) = some i := h
    unfold below? at h'
    split at h'
    · rename_i j e
      split at h'
      · cases h'
        exact ⟨e, by assumption⟩
      · cases h'
    · cases h'
theorem mkC_ini2 {B : Base} {fns : Nat → Fn} {c i n : Nat} (h : B.ini c = some i) (hi : i < n) : (mkC B fns n).ini c = some i := by
  cases n with
  | zero => exact absurd hi (Nat.not_lt_zero _)
  | succ n =>
    show below? (n + 1) (B.ini c) = some i
    rw [h]
    exact if_pos hi
theorem mkC_df {B : Base} {fns : Nat → Fn} {i : Nat} {ds : List Cst} : ∀ {n : Nat}, (mkC B fns n).df i ds = (ds.isEmpty || B.df i ds)
  | 0 => rfl
  | n + 1 => rfl
theorem mkC_xok {B : Base} {fns : Nat → Fn} : ∀ {n : Nat}, (mkC B fns n).xok = B.xok
  | 0 => rfl
  | n + 1 => rfl
theorem mkC_sub {B : Base} {fns : Nat → Fn} : ∀ {n : Nat}, (mkC B fns n).sub = B.sub
  | 0 => rfl
  | n + 1 => rfl
theorem mkC_fl {B : Base} {fns : Nat → Fn} {c f : Nat} : ∀ {n : Nat}, (mkC B fns n).fl c f = B.fl c f
  | 0 => rfl
  | n + 1 => rfl
def fn0 : Fn := ⟨0, 0, []⟩
def Prg.fns (P : Prg) (i : Nat) : Fn := match P.defs[i]? with
  | some d => d.fn
  | none => fn0
def Prg.C (P : Prg) (n : Nat) : Calls := mkC P.B P.fns n
def ckOf (P : Prg) (i : Nat) (d : DefD) : Ck where
  N := d.N
  sc := defScope d.st
  fnb := fun _ => true
  hot := false
  nm := P.nm
  gn := P.gn
  cn := P.cn
  gk := P.gk
  gv := P.gv
  has := fun j => decide (j < i)
  top := P.top
  ini := fun c => match P.B.ini c with
    | some j => decide (j < i)
    | none => false
  xsl := none
  xok := P.B.xok
  xi := fun c => decide (1 ≤ i) && (P.B.xini c).isSome
  deep := false
def scB (N P : List Str) (sc : Scope) : Bool :=
  decide (sc.kind = .function) && !sc.isCoroutine && !sc.isGenerator && decide N.Nodup && decide (N.take P.length = P) && P.all (fun x => decide (sc.names.lookup x = some .local) || decide (sc.names.lookup x = some .cell)) && sc.names.all (fun y => !decide (y.2 = .free))
theorem scB_ok {N P : List Str} {sc : Scope} (h : scB N P sc = true) : FnScope N P sc := by
  unfold scB at h
  simp only [Bool.and_eq_true, Bool.not_eq_true', decide_eq_true_eq, List.all_eq_true, Bool.or_eq_true, decide_eq_false_iff_not] at h
  obtain ⟨⟨⟨⟨⟨⟨h1, h2⟩, h3⟩, h4⟩, h5⟩, h6⟩, h7⟩ := h
  exact ⟨h1, h2, h3, h4, h5, h6, h7⟩
def chkD (P : Prg) (i : Nat) (d : DefD) : Bool :=
  scB d.N d.ps (defScope d.st) && decide (d.fn.many = d.ps.length) && decide (d.fn.slots = d.N.length) && chkB (ckOf P i d) d.fn.body (defBody d.st)
def chkL (P : Prg) : Nat → List DefD → Bool
  | _, [] => true
  | i, d :: r => chkD P i d && chkL P (i + 1) r
theorem chkL_get {P : Prg} : ∀ {l : List DefD} {i j : Nat} {d : DefD}, chkL P i l = true → l[j]? = some d → chkD P (i + j) d = true
  | [], _, _, _, _, h => by simp at h
  | x :: r, i, 0, d, h, e => by
    have h' : (chkD P i x && chkL P (i + 1) r) = true := h
    simp only [Bool.and_eq_true] at h'
    simp at e; subst e
    exact h'.1
  | x :: r, i, j + 1, d, h, e => by
    have h' : (chkD P i x && chkL P (i + 1) r) = true := h
    simp only [Bool.and_eq_true] at h'
    have := chkL_get h'.2 (show r[j]? = some d by simpa using e)
    rw [show i + (j + 1) = i + 1 + j by omega]
    exact this
theorem mkC_xf {B : Base} {fns : Nat → Fn} : ∀ {n : Nat}, (mkC B fns n).xf = B.xf
  | 0 => rfl
  | n + 1 => rfl
/-- an exception class's __init__: self.f = its parameter, once or twice -/
def xinB (nm : Nat → Str) (fs : List Nat) (d : DefD) : Bool := scB d.ps d.ps (defScope d.st) && (match fs, d.ps, defBody d.st with
  | [f], [s0, x1], [.Assign [.Attribute (.Name a0 _) g1 _] (.Name y1 _) _] => decide (a0 = s0) && decide (g1 = nm f) && decide (y1 = x1) && visB (defScope d.st) s0 && visB (defScope d.st) x1 && okN s0 && okN x1
  | [f, g], [s0, x1, x2], [.Assign [.Attribute (.Name a0 _) g1 _] (.Name y1 _) _, .Assign [.Attribute (.Name a2 _) g2 _] (.Name y2 _) _] =>
    decide (a0 = s0) && decide (g1 = nm f) && decide (y1 = x1) && visB (defScope d.st) s0 && visB (defScope d.st) x1 && okN s0 && okN x1 && decide (a2 = s0) && decide (g2 = nm g) && decide (y2 = x2) && visB (defScope d.st) x2 && okN x2 && decide (f ≠ g)
  | _, _, _ => false)
theorem xin_ok {P : Prg} {Pr : Program} {w : World} {K : PySem.W.Frag} {mg : Str → Option Value} {base : Heap} {nm : Nat → Str} {fs : List Nat} {d : DefD} {fI A : Addr} {fd : FuncData} (F : FunA K d.name d.qual d.st fI fd) (T : OexC K A) (hno : ∀ f ∈ fs, PySem.W.findIn K (.ref A) (nm f) = some none) (h : xinB nm fs d = true) :
    (∃ f, fs = [f] ∧ FnOk Pr w K mg base (L2.CX Pr w) 1 fI fd d.ps (sp1 A (nm f))) ∨ (∃ f g, fs = [f, g] ∧ f ≠ g ∧ FnOk Pr w K mg base (L2.CX Pr w) 1 fI fd d.ps (sp2 A (nm f) (nm g))) := by
  unfold xinB at h
  simp only [Bool.and_eq_true] at h
  obtain ⟨h0, h⟩ := h
  have sc := scB_ok h0
  split at h
  · rename_i f s0 x1 a0 p1 g1 p2 y1 p3 p4 ep eb
    simp only [Bool.and_eq_true, decide_eq_true_eq] at h
    obtain ⟨⟨⟨⟨⟨⟨e1, e2⟩, e3⟩, v0⟩, v1⟩, o0⟩, o1⟩ := h
    subst e1; subst e2; subst e3
    refine .inl ⟨f, rfl, F.okX (k := 0) sc (fun vs H Q E ⟨a, y, e, _⟩ => by rw [e, ep]; rfl) fun cdv A' outer s H vs Q E hr ⟨a, y, e, ha, q⟩ => ?_⟩
    subst e
    rw [ep, eb]
    exact ⟨_, pss_one (ps_ost (pe_var (i := 0) rfl (visB_ok (k := ckOf P 0 d) rfl v0) (okN_ok o0).1 (okN_ok o0).2) (pe_var (i := 1) rfl (visB_ok (k := ckOf P 0 d) rfl v1) (okN_ok o1).1 (okN_ok o1).2) rfl),
      ⟨y, rfl, .ref a, rfl, a, A, rfl, T, hno f (List.mem_cons_self ..), .inl ⟨ha, q⟩⟩⟩
  · rename_i f g s0 x1 x2 a0 p1 g1 p2 y1 p3 p4 a2 p5 g2 p6 y2 p7 p8 ep eb
    simp only [Bool.and_eq_true, decide_eq_true_eq] at h
    obtain ⟨⟨⟨⟨⟨⟨⟨⟨⟨⟨⟨⟨e1, e2⟩, e3⟩, v0⟩, v1⟩, o0⟩, o1⟩, e4⟩, e5⟩, e6⟩, v2⟩, o2⟩, hne⟩ := h
    subst e1; subst e2; subst e3; subst e4; subst e5; subst e6
    refine .inr ⟨f, g, rfl, hne, F.okX (k := 0) sc (fun vs H Q E ⟨a, y, z, e, _⟩ => by rw [e, ep]; rfl) fun cdv A' outer s H vs Q E hr ⟨a, y, z, e, ha, q⟩ => ?_⟩
    subst e
    rw [ep, eb]
    exact ⟨_, pss_cons (ps_ost (pe_var (i := 0) rfl (visB_ok (k := ckOf P 0 d) rfl v0) (okN_ok o0).1 (okN_ok o0).2) (pe_var (i := 1) rfl (visB_ok (k := ckOf P 0 d) rfl v1) (okN_ok o1).1 (okN_ok o1).2) rfl)
        (pss_one (ps_ost (pe_var (i := 0) rfl (visB_ok (k := ckOf P 0 d) rfl v0) (okN_ok o0).1 (okN_ok o0).2) (pe_var (i := 2) rfl (visB_ok (k := ckOf P 0 d) rfl v2) (okN_ok o2).1 (okN_ok o2).2) rfl)),
      ⟨y, rfl, .ref a, rfl, a, A, rfl, T, hno f (List.mem_cons_self ..), .inl ⟨ha, fun dx n1 n2 =>
        ⟨z, rfl, .ref a, rfl, a, A, rfl, T, hno g (List.mem_cons_of_mem _ (List.mem_cons_self ..)), .inr ⟨dx, [(nm f, y)], upd_same, by rw [upd_ne n2, upd_same], show 1 ≤ 900 by decide, q dx n1 n2⟩⟩⟩⟩⟩
  · cases h
/-- what the top has written, for the program -/
structure Facts (P : Prg) (G : Gx) (K : PySem.W.Frag) (mg : Str → Option Value) : Prop where
  nm : P.nm = G.nm
  gn : P.gn = G.gn
  cn : P.cn = G.cn
  fn : ∀ i d, P.defs[i]? = some d → ∃ fd, FunA K d.name d.qual d.st (G.fa i) fd ∧ Binds K fd d.ps [] ∧ ∀ ds, P.B.df i ds = true → ∃ us, Vals (ds.map Cst.v) us ∧ Binds K fd d.ps us
  ini : ∀ c i, P.B.ini c = some i → Mk K (G.ca c) (G.fa i) ∧ mg (G.cn c) = some (.ref (G.ca c))
  mt : ∀ c m i, P.B.mt c m = some i → Cls K (G.ca c) ∧ Meth K (G.ca c) (G.nm m) (G.fa i)
  fl : ∀ c f, P.B.fl c f = true → Cls K (G.ca c) ∧ NoAttr K (G.ca c) (G.nm f)
  top : ∀ i, P.top i = true → mg (G.gn i) = some (.ref (G.fa i))
  gv : ∀ n i, P.gv n = some i → ∃ v, mg (P.gk n) = some v ∧ RelV i.v v
  bl : ∀ x ∈ biNames, mg x = none
  xn : G.exs = none
  xc : ∀ c, P.B.xok c = true → ExcF K mg (G.ca c) (G.cn c)
  xb : ∀ c, P.B.xok c = true → P.B.xf c = [] → ExcB K (G.ca c)
  xi : ∀ c i, P.B.xini c = some i → OexC K (G.ca c) ∧ mg (G.cn c) = some (.ref (G.ca c)) ∧ PySem.W.findIn K (.ref (G.ca c)) "__init__" = some (some (.ref (G.fa i))) ∧ PySem.W.typeIn K (.ref (G.fa i)) = some (.type "function") ∧ ∃ d, P.defs[i]? = some d ∧ xinB P.nm (P.B.xf c) d = true
  xl : ∀ c f, (P.B.xf c).contains f = true → XfC K (G.ca c) ∧ PySem.W.findIn K (.ref (G.ca c)) (G.nm f) = some none
  xs : ∀ c d, P.B.xok c = true → P.B.xok d = true → PySem.W.subIn K (.ref (G.ca c)) (.ref (G.ca d)) = some (P.B.sub c d) ∧ PySem.W.kitOne K (.ref (G.ca c)) (.ref (G.ca d)) = some (P.B.sub c d)
  xv : ∀ c, P.B.xok c = true → PySem.W.kitOne K (.ref (G.ca c)) (.type "ValueError") = some true
section
variable {P : Prg} {G : Gx} {K : PySem.W.Frag} {mg : Str → Option Value} {Pr : Program} {w : World} {base : Heap}
theorem def_run (F : Facts P G K mg) [KEq G K] [WEq G w] {n : Nat} {d : DefD} (hd : P.defs[n]? = some d) (hc : chkD P n d = true) (S : Sta G (P.C n) Pr w K mg base (2 * n)) {fd : FuncData} (FF : FunA K d.name d.qual d.st (G.fa n) fd) :
    FnOk Pr w K mg base (L2.CX Pr w) (2 * n + 2) (G.fa n) fd d.ps (spOf G d.ps.length (runF (P.C n) (P.fns n))) ∧ ∀ xs h, xs.length ≠ d.ps.length → runF (P.C n) (P.fns n) xs h = .stuck := by
  unfold chkD at hc
  simp only [Bool.and_eq_true, decide_eq_true_eq] at hc
  obtain ⟨⟨⟨h1, h2⟩, h3⟩, h4⟩ := hc
  have sc := scB_ok h1
  have ef : P.fns n = d.fn := by unfold Prg.fns; rw [hd]
  rw [ef]
  refine ⟨FF.okX sc (fun vs H Q E h => h.1) (fun cdv A outer s H vs Q E hr h => ?_), fun xs h hl => ?_⟩
  · obtain ⟨hl, s1, ds, e, R, rv, p⟩ := h
    subst e
    have c : Ctx G (P.C n) (2 * n) (ckOf P n d) none (cxOf (L2.CX Pr w) Pr w K mg base d.N d.qual (defScope d.st) (G.fa n) cdv A outer s s1.H E) (fun cls d _ H => E cls d H) := {
      N := rfl
      sc := rfl
      fn := fun _ _ => rfl
      S := fun _ => S
      fl := S.fl
      xk := fun c d hc hd => (S.xs c d hc hd).2
      xv := S.xv
      xn := fun _ => F.xn
      xsl := by rw [F.xn]; rfl
      sui := fun _ _ h => by cases h
      dp := fun _ _ => ⟨rfl, rfl⟩
      tk := takes_of rfl rfl rfl rfl
      room := fun _ => hr
      units := by
        have := hr.un
        show (A.deeper _).units + 65 < cLine
        omega
      nd := sc.nd
      hot := rfl
      calm := fun _ => rfl
      T := {
        nm := F.nm
        gn := F.gn
        cn := F.cn
        has := fun i hi => by rw [show (P.C n).has i = decide (i < n) from mkC_has]; exact hi
        top := F.top
        ini := fun c hi => by
          have hi : (match P.B.ini c with | some j => decide (j < n) | none => false) = true := hi
          split at hi
          · rename_i j e
            exact ⟨j, mkC_ini2 e (of_decide_eq_true hi)⟩
          · cases hi
        gv := F.gv
        bl := F.bl
        xok := fun c hc => ⟨by rw [show (P.C n).xok = P.B.xok from mkC_xok]; exact hc, (F.xc c hc).gC⟩
        xi := fun c hc => by
          have hc' : (decide (1 ≤ n) && (P.B.xini c).isSome) = true := hc
          simp only [Bool.and_eq_true, decide_eq_true_eq] at hc'
          cases n with
          | zero => exact absurd hc'.1 (by decide)
          | succ m => exact hc'.2 }
      ke := ‹KEq G K›
      we := ‹WEq G w› }
    refine ⟨_, sndSs d.fn.body ⟨c, sc.kind, fun _ => passes_of rfl, fun _ => rfl, fun _ => rfl⟩ h4, s1, ds.map some ++ List.replicate (d.N.length - ds.length) none, rfl, R, start_ev F.xn rv, ?_⟩
    have hlen : ds.length = d.fn.many := by rw [h2, ← hl]; exact RVs.length rv
    unfold runF at p
    rw [if_pos hlen] at p
    have p2 := endR_ok (Post.gc R p)
    rw [h3] at p2
    rw [hlen]
    exact p2
  · unfold runF
    rw [if_neg]
    rw [h2]; exact hl
theorem def_ok (F : Facts P G K mg) [KEq G K] [WEq G w] {n : Nat} {d : DefD} (hd : P.defs[n]? = some d) (hc : chkD P n d = true) (S : Sta G (P.C n) Pr w K mg base (2 * n)) :
    ∃ (fd : FuncData), FnOk Pr w K mg base (L2.CX Pr w) (2 * n + 2) (G.fa n) fd d.ps (spOf G d.ps.length (runF (P.C n) (P.fns n))) ∧ (Binds K fd d.ps [] ∧ ∀ ds, P.B.df n ds = true → ∃ us, Vals (ds.map Cst.v) us ∧ Binds K fd d.ps us) ∧ ∀ xs h, xs.length ≠ d.ps.length → runF (P.C n) (P.fns n) xs h = .stuck := by
  obtain ⟨fd, FF, b⟩ := F.fn n d hd
  obtain ⟨h1, h2⟩ := def_run F hd hc S FF
  exact ⟨fd, h1, b, h2⟩
theorem tab_ok (F : Facts P G K mg) [KEq G K] [WEq G w] (hc : chkL P 0 P.defs = true) : ∀ n, n ≤ P.defs.length → Sta G (P.C n) Pr w K mg base (2 * n)
  | 0, _ => {
      fn := fun i h => by
        rw [show (P.C 0).has i = decide (i < 0) from mkC_has] at h
        simp at h
      mkc := fun c i h => by cases h
      mt := fun c m i h => by cases h
      fl := F.fl
      df := fun i => rfl
      xc := F.xc
      xb := F.xb
      xi := fun c h => by cases h
      xl := F.xl
      xs := F.xs
      xv := F.xv }
  | n + 1, hn => by
    have S := tab_ok F hc n (by omega)
    obtain ⟨d, hd⟩ : ∃ d, P.defs[n]? = some d := ⟨P.defs[n], List.getElem?_eq_getElem (by omega)⟩
    have hc1 := chkL_get hc hd
    rw [Nat.zero_add] at hc1
    obtain ⟨fd, ok, b, st⟩ := def_ok (Pr := Pr) (w := w) (base := base) F hd hc1 S
    have has : ∀ i, i < n + 1 → (P.C (n + 1)).has i = true := fun i hi => by
      rw [show (P.C (n + 1)).has i = decide (i < n + 1) from mkC_has]
      exact decide_eq_true hi
    refine ⟨fun i h => ?_, fun c i h => ?_, fun c m i h => ?_, fun c f h => F.fl c f h, fun i => rfl, F.xc, F.xb, fun c h => ?_, F.xl, F.xs, F.xv⟩
    · rw [show (P.C (n + 1)).has i = decide (i < n + 1) from mkC_has] at h
      have hi : i < n + 1 := of_decide_eq_true h
      by_cases e : i = n
      · subst e
        have ef : (P.C (i + 1)).fn i = runF (P.C i) (P.fns i) := mkC_fn hi
        refine ⟨⟨fd, d.ps, 2 * i + 2, by omega, by rw [ef]; exact ok, by rw [ef]; exact st, fun ds hds => ?_⟩, ?_⟩
        · have hds' : (ds.isEmpty || P.B.df i ds) = true := hds
          cases ds with
          | nil => exact ⟨[], .nil, b.1⟩
          | cons x r => exact b.2 _ hds'
        · obtain ⟨fd2, FF, _⟩ := F.fn i d hd
          exact FF.kp
      · have f1 := S.fn i (by rw [show (P.C n).has i = decide (i < n) from mkC_has]; exact decide_eq_true (by omega))
        have ef : (P.C (n + 1)).fn i = (P.C n).fn i := by
          rw [show (P.C (n + 1)).fn i = runF (P.C i) (P.fns i) from mkC_fn hi, show (P.C n).fn i = runF (P.C i) (P.fns i) from mkC_fn (by omega)]
        obtain ⟨⟨fd2, ps2, k2, hk2, ok2, st2, b2⟩, kp⟩ := f1
        refine ⟨⟨fd2, ps2, k2, by omega, by rw [ef]; exact ok2, by rw [ef]; exact st2, fun ds hds => b2 ds ?_⟩, kp⟩
        have hds' : (ds.isEmpty || P.B.df i ds) = true := hds
        rw [show (P.C n).df i ds = (ds.isEmpty || P.B.df i ds) from mkC_df]
        exact hds'
    · obtain ⟨h1, h2⟩ := mkC_ini h
      obtain ⟨m1, m2⟩ := F.ini c i h1
      exact ⟨has i h2, m1, m2⟩
    · obtain ⟨h1, h2⟩ := mkC_mt h
      obtain ⟨m1, m2⟩ := F.mt c m i h1
      exact ⟨has i h2, m1, m2⟩
    · have h' : (P.B.xini c).isSome = true := h
      obtain ⟨i, hi⟩ := Option.isSome_iff_exists.mp h'
      obtain ⟨T, g, iC, tI, d, hd, hx⟩ := F.xi c i hi
      obtain ⟨fd, FF, b, _⟩ := F.fn i d hd
      have hxf : (P.C (n + 1)).xf c = P.B.xf c := by rw [show (P.C (n + 1)).xf = P.B.xf from mkC_xf]
      refine ⟨by omega, T, g, G.fa i, fd, d.ps, iC, tI, b, ?_⟩
      rw [hxf, ← F.nm]
      exact xin_ok (P := P) FF T (fun f hf => by rw [F.nm]; exact (F.xl c f (by simpa using hf)).2) hx
end
end L2.Mini
set_option Elab.async false
set_option linter.all false
set_option maxRecDepth 100000
set_option maxHeartbeats 2000000
/-! Mini, part 17: from a program's data to the law. -/
namespace L2.Mini
open PySem PySem.Spec PyProof.Rows

/-! ### names by number -/
def ones (i : Nat) : Str := ⟨(List.replicate (i + 1) 1).toArray⟩
def nmOf (l : List Str) (i : Nat) : Str := match l[i]? with
  | some x => x
  | none => ones i
def nmC (l : List Str) : Bool := decide l.Nodup && l.all fun x => !decide (x.cps.toList.head? = some 1)
theorem ones_inj {i j : Nat} (h : ones i = ones j) : i = j := by
  have h1 := congrArg (fun x : Str => x.cps.toList.length) h
  simp [ones] at h1
  exact h1
theorem nm_inj {l : List Str} (h : nmC l = true) : ∀ i j, nmOf l i = nmOf l j → i = j := by
  unfold nmC at h
  simp only [Bool.and_eq_true, decide_eq_true_eq, List.all_eq_true, Bool.not_eq_true', decide_eq_false_iff_not] at h
  obtain ⟨h1, h2⟩ := h
  have no : ∀ (x : Str) (i : Nat), x ∈ l → x ≠ ones i := fun x i hx e => by
    refine h2 x hx ?_
    rw [e]
    simp [ones, List.replicate_succ]
  intro i j e
  unfold nmOf at e
  cases hi : l[i]? with
  | none =>
    cases hj : l[j]? with
    | none => rw [hi, hj] at e; exact ones_inj e
    | some y => rw [hi, hj] at e; exact absurd e.symm (no y i (List.mem_of_getElem? hj))
  | some x =>
    cases hj : l[j]? with
    | none => rw [hi, hj] at e; exact absurd e (no x j (List.mem_of_getElem? hi))
    | some y =>
      rw [hi, hj] at e
      have e' : x = y := e
      subst e'
      obtain ⟨a, b⟩ := List.getElem?_eq_some_iff.mp hi
      obtain ⟨c, d⟩ := List.getElem?_eq_some_iff.mp hj
      exact (List.getElem_inj h1).mp (b.trans d.symm)
/-- a program as it is printed -/
structure Src where
  defs : List DefD
  names : List Str
  classes : List Str
  /-- class, def: __init__ -/
  inis : List (Nat × Nat)
  /-- class, name, def -/
  mts : List ((Nat × Nat) × Nat)
  /-- class, attribute -/
  fls : List (Nat × Nat)
  /-- below, above -/
  subs : List (Nat × Nat)
  xfs : List (Nat × List Nat)
  /-- exception class, its own __init__ -/
  xis : List (Nat × Nat) := []
  /-- the exception classes -/
  xcs : List Nat
  /-- the defs that stand in the module -/
  tops : List Nat
  /-- the module's ints -/
  nums : List (Str × Cst)
  fuel : Nat
def Src.base (S : Src) : Base where
  df := fun i ds => match S.defs[i]? with
    | some d => decide (ds = d.dflt) && !ds.isEmpty
    | none => false
  mt := fun c m => S.mts.lookup (c, m)
  ini := fun c => S.inis.lookup c
  sub := fun c d => S.subs.contains (c, d)
  xf := fun c => (S.xfs.lookup c).getD []
  fl := fun c f => S.fls.contains (c, f)
  xok := fun c => S.xcs.contains c
  xini := fun c => S.xis.lookup c
  fuel := S.fuel
def Src.prg (S : Src) : Prg where
  defs := S.defs
  nm := nmOf S.names
  gn := fun i => match S.defs[i]? with
    | some d => d.name
    | none => ""
  cn := fun i => S.classes.getD i ""
  gk := fun i => match S.nums[i]? with
    | some p => p.1
    | none => ""
  gv := fun i => match S.nums[i]? with
    | some p => some p.2
    | none => none
  top := fun i => S.tops.contains i
  B := S.base
def KLst (K : PySem.W.Frag) (p : Addr) (us : List V) : Prop := ∃ (o : Obj) (its : Array Value) (n : Nat), K.lookup p = some o ∧ o.cls = .type "list" ∧ o.dict = none ∧ o.data = .seq its n ∧ its.size ≤ sizeLine ∧ Vals us its.toList
def Src.gx (S : Src) (h : nmC S.names = true) (K : PySem.W.Frag) (fa ca : List Addr) (w : World) : Gx where
  ca := fun i => ca.getD i 0
  nm := nmOf S.names
  inj := nm_inj h
  fa := fun i => fa.getD i 0
  gn := S.prg.gn
  cn := S.prg.cn
  K := K
  w := w
  kl := KLst K
  klk := fun _ _ h => h
  exs := none
/-- of all in the list -/
def Each {α : Type} (p : α → Prop) : List α → Prop
  | [] => True
  | a :: r => p a ∧ Each p r
theorem Each.get {α : Type} {p : α → Prop} : ∀ {l : List α} {a : α}, Each p l → a ∈ l → p a
  | [], _, _, h => by simp at h
  | b :: r, a, h, m => by
    rcases List.mem_cons.mp m with e | m
    · rw [e]; exact h.1
    · exact Each.get h.2 m
def EachI {α : Type} (p : Nat → α → Prop) : Nat → List α → Prop
  | _, [] => True
  | i, a :: r => p i a ∧ EachI p (i + 1) r
theorem EachI.get {α : Type} {p : Nat → α → Prop} : ∀ {l : List α} {i j : Nat} {a : α}, EachI p i l → l[j]? = some a → p (i + j) a
  | [], _, _, _, _, h => by simp at h
  | b :: r, i, 0, a, h, e => by
    simp at e; subst e; exact h.1
  | b :: r, i, j + 1, a, h, e => by
    have := EachI.get h.2 (show r[j]? = some a by simpa using e)
    rw [show i + (j + 1) = i + 1 + j by omega]
    exact this
theorem look_mem {α β : Type} [BEq α] [LawfulBEq α] : ∀ {l : List (α × β)} {a : α} {b : β}, l.lookup a = some b → (a, b) ∈ l
  | [], _, _, h => by simp at h
  | (x, y) :: r, a, b, h => by
    rw [List.lookup_cons] at h
    split at h
    · rename_i e
      cases h
      have e' : a = x := by simpa using e
      subst e'
      exact List.mem_cons_self ..
    · exact List.mem_cons_of_mem _ (look_mem h)
/-- the facts, each for itself -/
structure SrcF (S : Src) (K : PySem.W.Frag) (mg : Str → Option Value) (fa ca : List Addr) : Prop where
  fn : EachI (fun i d => ∃ fd, FunA K d.name d.qual d.st (fa.getD i 0) fd ∧ Binds K fd d.ps [] ∧ (d.dflt ≠ [] → ∃ us, Vals (d.dflt.map Cst.v) us ∧ Binds K fd d.ps us)) 0 S.defs
  ini : Each (fun p => Mk K (ca.getD p.1 0) (fa.getD p.2 0) ∧ mg (S.prg.cn p.1) = some (.ref (ca.getD p.1 0))) S.inis
  mt : Each (fun p => Cls K (ca.getD p.1.1 0) ∧ Meth K (ca.getD p.1.1 0) (nmOf S.names p.1.2) (fa.getD p.2 0)) S.mts
  fl : Each (fun p => Cls K (ca.getD p.1 0) ∧ NoAttr K (ca.getD p.1 0) (nmOf S.names p.2)) S.fls
  top : Each (fun i => mg (S.prg.gn i) = some (.ref (fa.getD i 0))) S.tops
  gv : Each (fun p => ∃ v, mg p.1 = some v ∧ RelV p.2.v v) S.nums
  bl : Each (fun x => mg x = none) biNames
  xc : Each (fun c => ExcF K mg (ca.getD c 0) (S.prg.cn c) ∧ PySem.W.kitOne K (.ref (ca.getD c 0)) (.type "ValueError") = some true) S.xcs
  xb : Each (fun c => (S.xfs.lookup c).getD [] = [] → ExcB K (ca.getD c 0)) S.xcs
  xi : Each (fun p => OexC K (ca.getD p.1 0) ∧ mg (S.prg.cn p.1) = some (.ref (ca.getD p.1 0)) ∧ PySem.W.findIn K (.ref (ca.getD p.1 0)) "__init__" = some (some (.ref (fa.getD p.2 0))) ∧ PySem.W.typeIn K (.ref (fa.getD p.2 0)) = some (.type "function") ∧
    ∃ d, S.defs[p.2]? = some d ∧ xinB (nmOf S.names) ((S.xfs.lookup p.1).getD []) d = true) S.xis
  xl : Each (fun p => XfC K (ca.getD p.1 0) ∧ Each (fun f => PySem.W.findIn K (.ref (ca.getD p.1 0)) (nmOf S.names f) = some none) p.2) S.xfs
  xs : Each (fun c => Each (fun d => PySem.W.subIn K (.ref (ca.getD c 0)) (.ref (ca.getD d 0)) = some (S.subs.contains (c, d)) ∧ PySem.W.kitOne K (.ref (ca.getD c 0)) (.ref (ca.getD d 0)) = some (S.subs.contains (c, d))) S.xcs) S.xcs
theorem SrcF.facts {S : Src} {K : PySem.W.Frag} {mg : Str → Option Value} {fa ca : List Addr} (h : nmC S.names = true) (F : SrcF S K mg fa ca) {w : World} : Facts S.prg (S.gx h K fa ca w) K mg where
  nm := rfl
  gn := rfl
  cn := rfl
  fn := fun i d e => by
    have := EachI.get F.fn e
    rw [Nat.zero_add] at this
    obtain ⟨fd, h1, h2, h3⟩ := this
    refine ⟨fd, h1, h2, fun ds hds => ?_⟩
    have hds' : (match S.defs[i]? with | some d => decide (ds = d.dflt) && !ds.isEmpty | none => false) = true := hds
    rw [show S.defs[i]? = some d from e] at hds'
    simp only [Bool.and_eq_true, decide_eq_true_eq, Bool.not_eq_true', List.isEmpty_eq_false_iff] at hds'
    obtain ⟨e1, e2⟩ := hds'
    subst e1
    exact h3 e2
  ini := fun c i e => by
    have := Each.get F.ini (look_mem (show S.inis.lookup c = some i from e))
    exact this
  mt := fun c m i e => by
    have := Each.get F.mt (look_mem (show S.mts.lookup (c, m) = some i from e))
    exact this
  fl := fun c f e => by
    have := Each.get F.fl (show (c, f) ∈ S.fls from by
      have e' : S.fls.contains (c, f) = true := e
      simpa using e')
    exact this
  top := fun i e => by
    have := Each.get F.top (show i ∈ S.tops from by
      have e' : S.tops.contains i = true := e
      simpa using e')
    exact this
  gv := fun n i e => by
    have e' : (match S.nums[n]? with | some p => some p.2 | none => none) = some i := e
    cases h : S.nums[n]? with
    | none => rw [h] at e'; cases e'
    | some p =>
      rw [h] at e'
      cases e'
      obtain ⟨tk, h2⟩ := Each.get F.gv (List.mem_of_getElem? h)
      refine ⟨tk, ?_, h2.2⟩
      replace h2 := h2.1
      show mg (match S.nums[n]? with | some p => p.1 | none => "") = _
      rw [h]
      exact h2
  bl := fun x hx => by
    have := Each.get F.bl hx
    exact this
  xn := rfl
  xc := fun c hc => by
    have := Each.get F.xc (show c ∈ S.xcs from by
      have e' : S.xcs.contains c = true := hc
      simpa using e')
    exact this.1
  xb := fun c hc h => by
    have := Each.get F.xb (show c ∈ S.xcs from by
      have e' : S.xcs.contains c = true := hc
      simpa using e')
    exact this h
  xi := fun c i h => by
    have := Each.get F.xi (look_mem (show S.xis.lookup c = some i from h))
    exact this
  xl := fun c f h => by
    have h' : ((S.xfs.lookup c).getD []).contains f = true := h
    cases hl : S.xfs.lookup c with
    | none => rw [hl] at h'; simp at h'
    | some l =>
      rw [hl] at h'
      obtain ⟨h1, h2⟩ := Each.get F.xl (look_mem hl)
      have h3 := Each.get h2 (show f ∈ l by simpa using h')
      exact ⟨h1, h3⟩
  xs := fun c d hc hd => by
    have h1 := Each.get F.xs (show c ∈ S.xcs from by
      have e' : S.xcs.contains c = true := hc
      simpa using e')
    have h2 := Each.get h1 (show d ∈ S.xcs from by
      have e' : S.xcs.contains d = true := hd
      simpa using e')
    exact h2
  xv := fun c hc => by
    have := Each.get F.xc (show c ∈ S.xcs from by
      have e' : S.xcs.contains c = true := hc
      simpa using e')
    exact this.2
theorem kit_ref {K : PySem.W.Frag} {a b : Addr} {r : Bool} (h : PySem.W.subIn K (.ref a) (.ref b) = some r) (hd : PySem.W.hasDictIn K b = true) (ht : PySem.W.typeIn K (.ref b) = some (.type "type")) (hs : PySem.W.subIn K (.ref a) (.ref a) = some true) : PySem.W.kitOne K (.ref a) (.ref b) = some r := by
  obtain ⟨cd, hc, _⟩ := PySem.W.any_some hd
  have e2 : ((PySem.W.clsIn K b).isSome && PySem.W.typeIn K (.ref b) == some (.type "type")) = true := by rw [hc, ht] <;> rfl
  unfold PySem.W.kitOne
  split
  · rename_i e
    have e3 : a = b := Value.ref.inj (beq_iff_eq.mp e)
    subst e3
    rw [hs] at h
    exact h
  · show (if ((PySem.W.clsIn K b).isSome && PySem.W.typeIn K (.ref b) == some (.type "type")) = true then PySem.W.subIn K (.ref a) (.ref b) else none) = some r
    rw [if_pos e2]
    exact h
theorem kit_ve {K : PySem.W.Frag} {a : Addr} (h : PySem.W.subIn K (.ref a) (.type "ValueError") = some true) : PySem.W.kitOne K (.ref a) (.type "ValueError") = some true := by
  unfold PySem.W.kitOne
  split
  · rfl
  · show (if PySem.W.kitMeta "ValueError" = true then PySem.W.subIn K (.ref a) (.type "ValueError") else none) = some true
    rw [if_pos (by decide +kernel)]
    exact h
/-! ### the law -/
def sx0 (H : Hp) : Sx := ⟨fun _ => none, [], H, fun _ => False⟩
theorem rel0 (G : Gx) (H : Hp) : REL G (sx0 H) where
  dom := fun n h => absurd h (Nat.not_lt_zero _)
  cod := fun _ _ h => by cases h
  inj := fun _ _ _ h _ => by cases h
  node := fun _ _ _ h _ => by simp [sx0] at h
  there := fun _ _ h => by cases h
  exT := fun _ h => h.elim
  exN := fun _ _ _ h => h
/-- law's promise: the script comes in, True comes out -/
def spLaw (K : PySem.W.Frag) (n : Nat) : Sp := fun vs H Q _ => ∃ (a : Addr) (ns : List Int), vs = [.ref a] ∧ SqL K H a (ns.map V.int) ∧ ns.length ≤ n ∧ ∀ H', Q (.bl true) H'
/-- what the interpreter must say of law, the last def -/
def Src.lawAt (S : Src) (m : Nat) (ns : List Int) : Res D := runF (S.prg.C m) (S.prg.fns m) [.scr (ns.map D.int)] []
theorem ints_rd2 {G : Gx} {s : Sx} : ∀ ns : List Int, s.RVs G (ns.map D.int) (ns.map V.int)
  | [] => rfl
  | n :: r => ⟨_, _, rfl, rfl, ints_rd2 r⟩
theorem law_ok {S : Src} {K : PySem.W.Frag} {mg : Str → Option Value} {fa ca : List Addr} {Pr : Program} {w : World} {n m : Nat} {d : DefD} {fd : FuncData} (hm : nmC S.names = true) (hc : chkL S.prg 0 S.defs = true) (hd : S.defs[m]? = some d) (hp : d.ps.length = 1)
    (hl : ∀ ns : List Int, ns.length ≤ n → ∃ h, S.lawAt m ns = .ok (.bl true) h) (F : SrcF S K mg fa ca) (base : Heap) (Fd : FunA K d.name d.qual d.st (fa.getD m 0) fd) :
    FnOk Pr w K mg base (L2.CX Pr w) (2 * m + 2) (fa.getD m 0) fd d.ps (spLaw K n) := by
  haveI ke : KEq (S.gx hm K fa ca w) K := ⟨rfl⟩
  haveI we : WEq (S.gx hm K fa ca w) w := ⟨rfl⟩
  have FF := F.facts hm (w := w)
  have hml : m < S.prg.defs.length := (List.getElem?_eq_some_iff.mp hd).1
  have St := tab_ok (Pr := Pr) (w := w) (base := base) FF hc m (Nat.le_of_lt hml)
  have hc1 := chkL_get hc hd
  rw [Nat.zero_add] at hc1
  obtain ⟨ok, _⟩ := def_run (Pr := Pr) (w := w) (base := base) FF hd hc1 St Fd
  refine ok.imp fun vs H Q E ⟨a, ns, e, hS, hn, k⟩ => ?_
  subst e
  obtain ⟨h, he⟩ := hl ns hn
  refine ⟨hp.symm, sx0 H, [.scr (ns.map D.int)], rfl, rel0 _ H, ⟨_, [], rfl, ⟨a, ns.map V.int, rfl, ?_, ints_rd2 ns⟩, rfl⟩, ?_⟩
  · rcases hS with hS | hS
    · exact .inl ⟨hS, fun z => z.elim (fun z => z) fun ⟨n, nd, z, _⟩ => by cases z⟩
    · exact .inr hS
  · have he' : runF (S.prg.C m) (S.prg.fns m) [.scr (ns.map D.int)] (sx0 H).h = .ok (.bl true) h := he
    rw [he']
    intro s' c _ _ _ q
    cases (show c = V.bl true from q)
    exact k _
theorem walk {l : PySem.W.OpenLaw} {S : Src} {n m : Nat} {d : DefD} {x : Str} {q : Program} {loose : List Str} {XP : (Str → Option Value) → Heap → Prop} {YP : World → Heap → Prop} {dr : DefRec} {K : Params → PySem.W.Frag}
    (hn : l.most = some n) (hn2 : n ≤ sizeLine) (hdf : dr.params.defaults = []) (hr : Room (2 * m + 2) callerA) (hY : ∀ (w : World) (h : Heap), YP w h → (K w.params).In h)
    (hm : nmC S.names = true) (hc : chkL S.prg 0 S.defs = true) (hd : S.defs[m]? = some d) (hp : d.ps = [x]) (hl : ∀ ns : List Int, ns.length ≤ n → ∃ h, S.lawAt m ns = .ok (.bl true) h)
    (F : ∀ (w : World) (mg : Str → Option Value) (fl : Addr) (h : Heap), (K w.params).In h → h.Ns mainGlobals mg → mg dr.name = some (.ref fl) → ∃ fa ca : List Addr, fa.getD m 0 = fl ∧ SrcF S (K w.params) mg fa ca ∧
      ∀ fd, FunA (K w.params) d.name d.qual d.st fl fd → ∀ (s : Shared) (v : Value), BindsTo s fd ⟨[v], []⟩ [(x, v)]) :
    PySem.W.WalkO q loose XP YP l.row.toRowW dr [] (fun f vs => PySem.call f vs) := by
  refine L2.walk_of (n := n) (k := 2 * m + 2) (x := x) (CX := fun w => L2.CX l.prog w) (sp := fun w => spLaw (K w.params) n) hn hn2 hdf hr hY (fun w mg fl h KX G hmg => ?_) (fun w H a ns hl _ hS => ⟨a, ns, rfl, hS, hl, fun _ => rfl⟩) fun w H s e s' hx => ?_
  · obtain ⟨fa, ca, rfl, FF, hb⟩ := F w mg fl h KX G hmg
    have e1 := EachI.get FF.fn hd
    rw [Nat.zero_add] at e1
    obtain ⟨fd, Fn1, _⟩ := e1
    refine ⟨fd, hb fd Fn1, fun base _ _ => ?_⟩
    have ok := law_ok (Pr := l.prog) (w := w) (mg := mg) hm hc hd (by rw [hp]; rfl) hl FF base Fn1
    rw [hp] at ok
    exact ok
  · obtain ⟨_, _, _, _, _, _, _, _, _, _, _, _, z⟩ := hx
    exact z
/-! the same, with the script's bits told -/
theorem log_of_bits {z : Int} (h : Builtin.Int.intBits z ≤ 1048576) : z.natAbs.log2 ≤ 1048576 := by
  unfold Builtin.Int.intBits at h
  split at h
  · rename_i e
    have e2 : z = 0 := by simpa using e
    subst e2
    exact Nat.zero_le _
  · omega
/-- law's promise: the script comes in, True comes out -/
def spLawB (K : PySem.W.Frag) (n : Nat) : Sp := fun vs H Q _ => ∃ (a : Addr) (ns : List Int), vs = [.ref a] ∧ SqL K H a (ns.map V.int) ∧ ns.length ≤ n ∧ (∀ z ∈ ns, z.natAbs.log2 ≤ 1048576) ∧ ∀ H', Q (.bl true) H'
theorem law_okB {S : Src} {K : PySem.W.Frag} {mg : Str → Option Value} {fa ca : List Addr} {Pr : Program} {w : World} {n m : Nat} {d : DefD} {fd : FuncData} (hm : nmC S.names = true) (hc : chkL S.prg 0 S.defs = true) (hd : S.defs[m]? = some d) (hp : d.ps.length = 1)
    (hl : ∀ ns : List Int, ns.length ≤ n → (∀ z ∈ ns, z.natAbs.log2 ≤ 1048576) → ∃ h, S.lawAt m ns = .ok (.bl true) h) (F : SrcF S K mg fa ca) (base : Heap) (Fd : FunA K d.name d.qual d.st (fa.getD m 0) fd) :
    FnOk Pr w K mg base (L2.CX Pr w) (2 * m + 2) (fa.getD m 0) fd d.ps (spLawB K n) := by
  haveI ke : KEq (S.gx hm K fa ca w) K := ⟨rfl⟩
  haveI we : WEq (S.gx hm K fa ca w) w := ⟨rfl⟩
  have FF := F.facts hm (w := w)
  have hml : m < S.prg.defs.length := (List.getElem?_eq_some_iff.mp hd).1
  have St := tab_ok (Pr := Pr) (w := w) (base := base) FF hc m (Nat.le_of_lt hml)
  have hc1 := chkL_get hc hd
  rw [Nat.zero_add] at hc1
  obtain ⟨ok, _⟩ := def_run (Pr := Pr) (w := w) (base := base) FF hd hc1 St Fd
  refine ok.imp fun vs H Q E ⟨a, ns, e, hS, hn, hbt, k⟩ => ?_
  subst e
  obtain ⟨h, he⟩ := hl ns hn hbt
  refine ⟨hp.symm, sx0 H, [.scr (ns.map D.int)], rfl, rel0 _ H, ⟨_, [], rfl, ⟨a, ns.map V.int, rfl, ?_, ints_rd2 ns⟩, rfl⟩, ?_⟩
  · rcases hS with hS | hS
    · exact .inl ⟨hS, fun z => z.elim (fun z => z) fun ⟨n, nd, z, _⟩ => by cases z⟩
    · exact .inr hS
  · have he' : runF (S.prg.C m) (S.prg.fns m) [.scr (ns.map D.int)] (sx0 H).h = .ok (.bl true) h := he
    rw [he']
    intro s' c _ _ _ q
    cases (show c = V.bl true from q)
    exact k _
theorem walkB {l : PySem.W.OpenLaw} {S : Src} {n m : Nat} {d : DefD} {x : Str} {q : Program} {loose : List Str} {XP : (Str → Option Value) → Heap → Prop} {YP : World → Heap → Prop} {dr : DefRec} {K : Params → PySem.W.Frag}
    (hn : l.most = some n) (hn2 : n ≤ sizeLine) (hdf : dr.params.defaults = []) (hr : Room (2 * m + 2) callerA) (hY : ∀ (w : World) (h : Heap), YP w h → (K w.params).In h)
    (hm : nmC S.names = true) (hc : chkL S.prg 0 S.defs = true) (hd : S.defs[m]? = some d) (hp : d.ps = [x]) (hl : ∀ ns : List Int, ns.length ≤ n → (∀ z ∈ ns, z.natAbs.log2 ≤ 1048576) → ∃ h, S.lawAt m ns = .ok (.bl true) h)
    (F : ∀ (w : World) (mg : Str → Option Value) (fl : Addr) (h : Heap), (K w.params).In h → h.Ns mainGlobals mg → mg dr.name = some (.ref fl) → ∃ fa ca : List Addr, fa.getD m 0 = fl ∧ SrcF S (K w.params) mg fa ca ∧
      ∀ fd, FunA (K w.params) d.name d.qual d.st fl fd → ∀ (s : Shared) (v : Value), BindsTo s fd ⟨[v], []⟩ [(x, v)]) :
    PySem.W.WalkO q loose XP YP l.row.toRowW dr [] (fun f vs => PySem.call f vs) := by
  refine L2.walk_ofB (n := n) (k := 2 * m + 2) (x := x) (CX := fun w => L2.CX l.prog w) (sp := fun w => spLawB (K w.params) n) hn hn2 hdf hr hY (fun w mg fl h KX G hmg => ?_) (fun w H a ns hl hbt _ hS => ⟨a, ns, rfl, hS, hl, fun z hz => log_of_bits (hbt z hz), fun _ => rfl⟩) fun w H s e s' hx => ?_
  · obtain ⟨fa, ca, rfl, FF, hb⟩ := F w mg fl h KX G hmg
    have e1 := EachI.get FF.fn hd
    rw [Nat.zero_add] at e1
    obtain ⟨fd, Fn1, _⟩ := e1
    refine ⟨fd, hb fd Fn1, fun base _ _ => ?_⟩
    have ok := law_okB (Pr := l.prog) (w := w) (mg := mg) hm hc hd (by rw [hp]; rfl) hl FF base Fn1
    rw [hp] at ok
    exact ok
  · obtain ⟨_, _, _, _, _, _, _, _, _, _, _, _, z⟩ := hx
    exact z
end L2.Mini
set_option Elab.async false
set_option linter.all false
set_option maxRecDepth 100000
set_option maxHeartbeats 1000000
/-! Mini: rules for reading what the interpreter does. -/
namespace L2.Mini
open PySem L2
section
variable {C : Calls} {cur : Cur} {ρ : En} {h : Hm}
@[simp] theorem e_var (i : Nat) : evE C cur (.var i) ρ h = varD ρ i h := rfl
@[simp] theorem e_con (c : Cst) : evE C cur (.con c) ρ h = .ok c.d h := rfl
@[simp] theorem e_glob (n : Nat) (i : Int) : evE C cur (.glob n i) ρ h = .ok (.int i) h := rfl
@[simp] theorem e_bin (op : Bop) (mk : Bool) (a b : E) : evE C cur (.bin op mk a b) ρ h = (evE C cur a ρ h).bind fun x h => (evE C cur b ρ h).bind fun y h => opB op mk x y h := rfl
@[simp] theorem e_neg (a : E) : evE C cur (.neg a) ρ h = (evE C cur a ρ h).bind negD := rfl
@[simp] theorem e_cmp (op : Cop) (a b : E) : evE C cur (.cmp op a b) ρ h = (evE C cur a ρ h).bind fun x h => (evE C cur b ρ h).bind fun y h => opC op x y h := rfl
@[simp] theorem e_chain (o1 o2 : Cop) (a b c : E) : evE C cur (.chain o1 o2 a b c) ρ h = (evE C cur a ρ h).bind fun x h => (evE C cur b ρ h).bind fun y h => (opC o1 x y h).bind fun z h =>
      ifD z ((evE C cur c ρ h).bind fun w h => opC o2 y w h) (.ok (.bl false) h) := rfl
@[simp] theorem e_bool (and : Bool) (es : List E) : evE C cur (.bool and es) ρ h = evB C cur and es ρ h := rfl
@[simp] theorem e_not (a : E) : evE C cur (.not a) ρ h = (evE C cur a ρ h).bind notD := rfl
@[simp] theorem e_ife (c a b : E) : evE C cur (.ife c a b) ρ h = (evE C cur c ρ h).bind fun x h => ifD x (evE C cur a ρ h) (evE C cur b ρ h) := rfl
@[simp] theorem e_tup (es : List E) : evE C cur (.tup es) ρ h = (evEs C cur es ρ h).bind tupD := rfl
@[simp] theorem e_lst (mk : Bool) (es : List E) : evE C cur (.lst mk es) ρ h = (evEs C cur es ρ h).bind fun xs h => newL mk xs h := rfl
@[simp] theorem e_idx (a i : E) : evE C cur (.idx a i) ρ h = (evE C cur a ρ h).bind fun x h => (evE C cur i ρ h).bind fun y h => ixD x y h := rfl
@[simp] theorem e_cut (mk : Bool) (a : E) (lo hi : Option E) : evE C cur (.cut mk a lo hi) ρ h = (evE C cur a ρ h).bind fun x h => (evO C cur lo ρ h).bind fun l h => (evO C cur hi ρ h).bind fun u h => cutOp mk x l u h := rfl
@[simp] theorem e_attr (a : E) (f : Nat) : evE C cur (.attr a f) ρ h = (evE C cur a ρ h).bind fun x h => attrD C x f h := rfl
@[simp] theorem e_call (i : Nat) (es : List E) (ds : List Cst) : evE C none (.call i es ds) ρ h = (evEs C none es ρ h).bind fun xs h => if C.df i ds then C.fn i (xs ++ ds.map Cst.d) h else .stuck := rfl
@[simp] theorem e_make (c : Nat) (es : List E) (ds : List Cst) : evE C none (.make c es ds) ρ h = (evEs C none es ρ h).bind fun xs h => match C.ini c with
    | some i => if C.df i ds then makeD C c (xs ++ ds.map Cst.d) h else .stuck
    | none => .stuck := rfl
@[simp] theorem e_meth (a : E) (m : Nat) (es : List E) : evE C none (.meth a m es) ρ h = (evE C none a ρ h).bind fun x h => match methD C x m h with
    | some i => (evEs C none es ρ h).bind fun xs h => C.fn i (x :: xs) h
    | none => .stuck := rfl
@[simp] theorem e_bi (b : Bi) (mk : Bool) (es : List E) : evE C none (.bi b mk es) ρ h = (evEs C none es ρ h).bind fun xs h => biCall b mk xs h := rfl
@[simp] theorem e_bm (b : Bm) (mk : Bool) (a : E) (es : List E) : evE C cur (.bm b mk a es) ρ h = (evE C cur a ρ h).bind fun x h => if recv b x h then (evEs C cur es ρ h).bind fun xs h => bmCall b mk x xs h else .stuck := rfl
@[simp] theorem e_isa (a : E) (t : Ty) : evE C cur (.isa a t) ρ h = (evE C cur a ρ h).bind fun x h => isaD x t h := rfl
theorem e_comp (mk : Bool) (elt : E) (p : Pt) (it : It) (cond : Option E) (own : List Nat) : evE C none (.comp mk elt p it cond own) ρ h = (evI C none it ρ h).bind fun w h => if w.1.length ≤ big then
      (quietR (loopC w.2 p (fun ρ h => evT C none cond ρ h) (fun ρ h => evE C none elt ρ h) (wipe ρ own) w.1 h)).bind fun ys h => newL mk ys h else .stuck := rfl
@[simp] theorem e_globT (n : Nat) (x : Str) : evE C cur (.globT n x) ρ h = .ok (.str x) h := rfl
@[simp] theorem x_tryN (b : List S) : exS C none (.tryN b) ρ h = quietS (exB C none b ρ h) := rfl
@[simp] theorem quiet_okS (f : Fl) : quietS (.ok f ρ h) = .ok f ρ h := rfl
theorem e_compX (mk : Bool) (elt : E) (p : Pt) (it : It) (cond : Option E) (own : List Nat) : evE C none (.compX mk elt p it cond own) ρ h = (evI C none it ρ h).bind fun w h => if w.1.length ≤ big then
      (loopC w.2 p (fun ρ h => evT C none cond ρ h) (fun ρ h => evE C none elt ρ h) (wipe ρ own) w.1 h).bind fun ys h => newL mk ys h else .stuck := rfl
/-- where it ends well it is as the one that lets nothing out -/
theorem compX_ok {mk : Bool} {elt : E} {p : Pt} {it : It} {cond : Option E} {own : List Nat} {d : D} {h' : Hm} (e : evE C none (.comp mk elt p it cond own) ρ h = .ok d h') : evE C none (.compX mk elt p it cond own) ρ h = .ok d h' := by
  rw [e_comp] at e
  rw [e_compX]
  cases hi : evI C none it ρ h with
  | ok w h1 =>
    rw [hi] at e
    have e : (if w.1.length ≤ big then (quietR (loopC w.2 p (fun ρ h => evT C none cond ρ h) (fun ρ h => evE C none elt ρ h) (wipe ρ own) w.1 h1)).bind fun ys h => newL mk ys h else .stuck) = .ok d h' := e
    show (if w.1.length ≤ big then (loopC w.2 p (fun ρ h => evT C none cond ρ h) (fun ρ h => evE C none elt ρ h) (wipe ρ own) w.1 h1).bind fun ys h => newL mk ys h else .stuck) = .ok d h'
    split at e
    · rename_i c
      rw [if_pos c]
      cases hl : loopC w.2 p (fun ρ h => evT C none cond ρ h) (fun ρ h => evE C none elt ρ h) (wipe ρ own) w.1 h1 with
      | ok ys h2 => rw [hl] at e; exact e
      | exc c fs h2 => rw [hl] at e; cases e
      | stuck => rw [hl] at e; cases e
    · cases e
  | exc c fs h1 => rw [hi] at e; exact e
  | stuck => rw [hi] at e; cases e
@[simp] theorem e_frz (a : E) : evE C cur (.frz a) ρ h = (evE C cur a ρ h).bind fun x h => frzD x h := rfl
@[simp] theorem t_none : evT C cur none ρ h = .ok true h := rfl
@[simp] theorem t_some (e : E) : evT C cur (some e) ρ h = (evE C cur e ρ h).bind asB := rfl
@[simp] theorem o_none : evO C cur none ρ h = .ok none h := rfl
@[simp] theorem o_some (e : E) : evO C cur (some e) ρ h = (evE C cur e ρ h).bind asO := rfl
@[simp] theorem es_nil : evEs C cur [] ρ h = .ok [] h := rfl
@[simp] theorem es_cons (e : E) (es : List E) : evEs C cur (e :: es) ρ h = (evE C cur e ρ h).bind fun x h => (evEs C cur es ρ h).bind fun xs h => .ok (x :: xs) h := rfl
@[simp] theorem b_one (and : Bool) (e : E) : evB C cur and [e] ρ h = evE C cur e ρ h := rfl
@[simp] theorem b_and (e e2 : E) (es : List E) : evB C cur true (e :: e2 :: es) ρ h = (evE C cur e ρ h).bind fun x h => ifD x (evB C cur true (e2 :: es) ρ h) (.ok (.bl false) h) := rfl
@[simp] theorem b_or (e e2 : E) (es : List E) : evB C cur false (e :: e2 :: es) ρ h = (evE C cur e ρ h).bind fun x h => ifD x (.ok (.bl true) h) (evB C cur false (e2 :: es) ρ h) := rfl
@[simp] theorem i_seq (e : E) : evI C cur (.seq e) ρ h = (evE C cur e ρ h).bind iterSeq := rfl
@[simp] theorem i_range1 (e : E) : evI C cur (.range1 e) ρ h = (evE C cur e ρ h).bind iterR1 := rfl
@[simp] theorem i_range2 (a b : E) : evI C cur (.range2 a b) ρ h = (evE C cur a ρ h).bind fun x h => (evE C cur b ρ h).bind fun y h => iterR2 x y h := rfl
@[simp] theorem i_chars (e : E) : evI C cur (.chars e) ρ h = (evE C cur e ρ h).bind iterChars := rfl
@[simp] theorem i_enum (e : E) : evI C cur (.enum e) ρ h = (evE C cur e ρ h).bind iterEnum := rfl
@[simp] theorem i_zip (a b : E) : evI C cur (.zip a b) ρ h = (evE C cur a ρ h).bind fun x h => (evE C cur b ρ h).bind fun y h => iterZip x y h := rfl
@[simp] theorem i_rev (e : E) : evI C cur (.rev e) ρ h = (evE C cur e ρ h).bind iterRev := rfl
@[simp] theorem x_set (p : Pt) (e : E) : exS C cur (.set p e) ρ h = onE ρ (evE C cur e ρ h) fun x h => setP cur p x ρ h := rfl
@[simp] theorem x_setA (o : E) (f : Nat) (e : E) : exS C cur (.setA o f e) ρ h = onE ρ (evE C cur e ρ h) fun v h => onE ρ (evE C cur o ρ h) fun x h => setAD C x f v ρ h := rfl
@[simp] theorem x_setI (o i e : E) : exS C cur (.setI o i e) ρ h = onE ρ (evE C cur e ρ h) fun v h => onE ρ (evE C cur o ρ h) fun x h => onE ρ (evE C cur i ρ h) fun y h => setID x y v ρ h := rfl
@[simp] theorem x_aug (i : Nat) (op : Bop) (e : E) : exS C cur (.aug i op e) ρ h = augD i op (evE C cur e ρ h) ρ := rfl
@[simp] theorem x_expr (e : E) : exS C cur (.expr e) ρ h = onE ρ (evE C cur e ρ h) fun _ h => .ok .next ρ h := rfl
@[simp] theorem x_ret (e : E) : exS C cur (.ret e) ρ h = onE ρ (evE C cur e ρ h) fun x h => .ok (.ret x) ρ h := rfl
@[simp] theorem x_retN : exS C cur .retN ρ h = .ok (.ret .non) ρ h := rfl
@[simp] theorem x_ite (c : E) (a b : List S) : exS C cur (.ite c a b) ρ h = onE ρ ((evE C cur c ρ h).bind asB) fun x h => if x then exB C cur a ρ h else exB C cur b ρ h := rfl
theorem x_whil (c : E) (b : List S) : exS C none (.whil c b) ρ h = loopW (fun ρ h => (evE C none c ρ h).bind asB) (fun ρ h => exB C none b ρ h) C.fuel ρ h := rfl
def bodyF (C : Calls) (p : Pt) (b : List S) (x : D) (ρ : En) (h : Hm) : SRes := match bindP p x ρ with
  | some ρ => exB C none b ρ h
  | none => .stuck
theorem x_forr (p : Pt) (it : It) (b : List S) : exS C none (.forr p it b) ρ h = onE ρ (evI C none it ρ h) fun w h => loopF w.2 (bodyF C p b) w.1 ρ h := rfl
@[simp] theorem x_pass : exS C cur .pass ρ h = .ok .next ρ h := rfl
@[simp] theorem x_brk : exS C cur .brk ρ h = .ok .brk ρ h := rfl
@[simp] theorem x_cont : exS C cur .cont ρ h = .ok .cont ρ h := rfl
@[simp] theorem x_nil : exB C cur [] ρ h = .ok .next ρ h := rfl
def seqB (r : SRes) (k : En → Hm → SRes) : SRes := match r with
  | .ok .next ρ h => k ρ h
  | x => x
@[simp] theorem x_cons (s : S) (r : List S) : exB C cur (s :: r) ρ h = seqB (exS C cur s ρ h) fun ρ h => exB C cur r ρ h := rfl
@[simp] theorem seqB_next (k : En → Hm → SRes) : seqB (.ok .next ρ h) k = k ρ h := rfl
@[simp] theorem seqB_ret (d : D) (k : En → Hm → SRes) : seqB (.ok (.ret d) ρ h) k = .ok (.ret d) ρ h := rfl
@[simp] theorem seqB_brk (k : En → Hm → SRes) : seqB (.ok .brk ρ h) k = .ok .brk ρ h := rfl
@[simp] theorem seqB_cont (k : En → Hm → SRes) : seqB (.ok .cont ρ h) k = .ok .cont ρ h := rfl
@[simp] theorem seqB_exc (c : Nat) (fs : List (Nat × D)) (k : En → Hm → SRes) : seqB (.exc c fs ρ h) k = .exc c fs ρ h := rfl
@[simp] theorem onE_ok {α : Type} (a : α) (k : α → Hm → SRes) : onE ρ (.ok a h) k = k a h := rfl
@[simp] theorem onE_exc {α : Type} (c : Nat) (fs : List (Nat × D)) (k : α → Hm → SRes) : onE ρ (.exc c fs h) k = .exc c fs ρ h := rfl
@[simp] theorem setP_one (i : Nat) (x : D) : setP none (.one i) x ρ h = .ok .next (ρ.set i (some x)) h := rfl
@[simp] theorem var_0 (d : D) : varD (some d :: ρ) 0 h = .ok d h := rfl
@[simp] theorem var_s (x : Option D) (i : Nat) : varD (x :: ρ) (i + 1) h = varD ρ i h := by simp [varD]
@[simp] theorem ifD_t {α : Type} (a b : Res α) : ifD (.bl true) a b = a := rfl
@[simp] theorem ifD_f {α : Type} (a b : Res α) : ifD (.bl false) a b = b := rfl
theorem ifD_bl {α : Type} (c : Bool) (a b : Res α) : ifD (.bl c) a b = if c = true then a else b := by cases c <;> rfl
@[simp] theorem asB_bl (b : Bool) : asB (.bl b) h = .ok b h := rfl
@[simp] theorem asO_int (i : Int) : asO (.int i) h = .ok (some i) h := rfl
@[simp] theorem notD_bl (b : Bool) : notD (.bl b) h = .ok (.bl (!b)) h := rfl
@[simp] theorem negD_int (i : Int) : negD (.int i) h = .ok (.int (-i)) h := rfl
@[simp] theorem cst_non : Cst.d .non = .non := rfl
@[simp] theorem cst_bl (b : Bool) : Cst.d (.bl b) = .bl b := rfl
@[simp] theorem cst_int (b : Int) : Cst.d (.int b) = .int b := rfl
@[simp] theorem cst_str (b : Str) : Cst.d (.str b) = .str b := rfl
@[simp] theorem opB_add (mk : Bool) (i j : Int) : opB .add mk (.int i) (.int j) h = .ok (.int (i + j)) h := rfl
@[simp] theorem opB_sub (mk : Bool) (i j : Int) : opB .sub mk (.int i) (.int j) h = .ok (.int (i - j)) h := rfl
theorem opB_mul (mk : Bool) (i j : Int) (c : i.natAbs.log2 + j.natAbs.log2 < 100000000) : opB .mul mk (.int i) (.int j) h = .ok (.int (i * j)) h := if_pos c
theorem opB_fdiv (mk : Bool) (i j : Int) (c : 0 < j ∧ j.natAbs.log2 < 9000) : opB .fdiv mk (.int i) (.int j) h = .ok (.int (i / j)) h := if_pos c
theorem opB_mod (mk : Bool) (i j : Int) (c : 0 < j) : opB .mod mk (.int i) (.int j) h = .ok (.int (i % j)) h := if_pos c
@[simp] theorem opC_lt (i j : Int) : opC .lt (.int i) (.int j) h = .ok (.bl (decide (i < j))) h := rfl
@[simp] theorem opC_le (i j : Int) : opC .le (.int i) (.int j) h = .ok (.bl (decide (i ≤ j))) h := rfl
@[simp] theorem opC_gt (i j : Int) : opC .gt (.int i) (.int j) h = .ok (.bl (decide (j < i))) h := rfl
@[simp] theorem opC_ge (i j : Int) : opC .ge (.int i) (.int j) h = .ok (.bl (decide (j ≤ i))) h := rfl
@[simp] theorem isa_int (t : Ty) (i : Int) : isaD (.int i) t h = .ok (.bl (t matches .int)) h := rfl
@[simp] theorem isa_tup (t : Ty) (i : List D) : isaD (.tup i) t h = .ok (.bl (t matches .tuple | .listTuple)) h := rfl
@[simp] theorem isa_lst (t : Ty) (i : List D) : isaD (.lst i) t h = .ok (.bl (t matches .list | .listTuple)) h := rfl
@[simp] theorem isa_str (t : Ty) (i : Str) : isaD (.str i) t h = .ok (.bl (t matches .str)) h := rfl
@[simp] theorem isa_bl (t : Ty) (i : Bool) : isaD (.bl i) t h = .ok (.bl (t matches .int | .bool)) h := rfl
@[simp] theorem isa_non (t : Ty) : isaD .non t h = .ok (.bl false) h := rfl
@[simp] theorem len_tup (mk : Bool) (xs : List D) : biCall .len mk [.tup xs] h = .ok (.int xs.length) h := rfl
@[simp] theorem len_lst (mk : Bool) (xs : List D) : biCall .len mk [.lst xs] h = .ok (.int xs.length) h := rfl
@[simp] theorem len_scr (mk : Bool) (xs : List D) : biCall .len mk [.scr xs] h = .ok (.int xs.length) h := rfl
@[simp] theorem tup_lst (mk : Bool) (xs : List D) : biCall .tupOf mk [.lst xs] h = .ok (.tup xs) h := rfl
@[simp] theorem frz_tup (xs : List D) : frzD (.tup xs) h = .ok (.tup xs) h := rfl
@[simp] theorem frz_lst (xs : List D) : frzD (.lst xs) h = .ok (.lst xs) h := rfl
@[simp] theorem iterSeq_tup (xs : List D) : iterSeq (.tup xs) h = .ok (xs, none) h := rfl
@[simp] theorem iterSeq_lst (xs : List D) : iterSeq (.lst xs) h = .ok (xs, none) h := rfl
@[simp] theorem iterSeq_scr (xs : List D) : iterSeq (.scr xs) h = .ok (xs, none) h := rfl
@[simp] theorem iterEnum_tup (xs : List D) : iterEnum (.tup xs) h = .ok (enumD 0 xs, none) h := rfl
@[simp] theorem iterEnum_lst (xs : List D) : iterEnum (.lst xs) h = .ok (enumD 0 xs, none) h := rfl
theorem iterR1_int (i : Int) (c : small i = true) : iterR1 (.int i) h = .ok (rangeD 0 i.toNat, none) h := by
  unfold iterR1
  dsimp only
  rw [if_pos c]
theorem tupD_ok (xs : List D) (c : xs.length ≤ big) : tupD xs h = .ok (.tup xs) h := if_pos c
theorem newL_pure (xs : List D) (c : xs.length ≤ big) : newL false xs h = .ok (.lst xs) h := by unfold newL; rw [if_pos c]; rfl
theorem newL_node (xs : List D) (c : xs.length ≤ big) : newL true xs h = .ok (.ref h.length) (h ++ [.lst xs]) := by unfold newL; rw [if_pos c]; rfl
@[simp] theorem quiet_ok {α : Type} (a : α) : quietR (.ok a h) = .ok a h := rfl
@[simp] theorem endR_ret (d : D) : endR (.ok (.ret d) ρ h) = .ok d h := rfl
@[simp] theorem endR_next : endR (.ok .next ρ h) = .ok .non h := rfl
@[simp] theorem gc_len (h0 : Hm) (d : D) (e : h.length = h0.length) : gcD h0 (.ok d h) = .ok d h := by
  unfold gcD
  dsimp only
  split
  · rw [← e, List.take_length]
  · rfl
@[simp] theorem gc_same (d : D) : gcD h (.ok d h) = .ok d h := gc_len h d rfl
/-- what was made is dropped -/
theorem gc_drop (g : Hm) (d : D) (hp : isP d = true) : gcD h (.ok d (h ++ g)) = .ok d h := by
  unfold gcD
  dsimp only
  rw [if_pos ⟨hp, .inl (List.take_left' rfl)⟩, List.take_left' rfl]
@[simp] theorem gc_ref (h0 : Hm) (n : Nat) : gcD h0 (.ok (.ref n) h) = .ok (.ref n) h := by
  unfold gcD
  dsimp only
  rw [if_neg]
  intro z
  cases z.1
/-! ### loops -/
theorem loopF_inv {g : Option (Nat × List D)} {body : D → En → Hm → SRes} (I : Nat → En → Hm → Prop) : ∀ (xs : List D) (i0 : Nat) (ρ : En) (h : Hm), I i0 ρ h →
    (∀ i x ρ h, xs[i]? = some x → I (i0 + i) ρ h → guardOk g h = true ∧ ∃ ρ' h', (body x ρ h = .ok .next ρ' h' ∨ body x ρ h = .ok .cont ρ' h') ∧ I (i0 + i + 1) ρ' h') → (∀ ρ h, I (i0 + xs.length) ρ h → guardOk g h = true) →
    ∃ ρ' h', loopF g body xs ρ h = .ok .next ρ' h' ∧ I (i0 + xs.length) ρ' h'
  | [], i0, ρ, h, hI, _, he => by
    refine ⟨ρ, h, ?_, hI⟩
    unfold loopF
    rw [if_pos (he ρ h hI)]
  | x :: xs, i0, ρ, h, hI, hs, he => by
    obtain ⟨hg, ρ1, h1, e, hI1⟩ := hs 0 x ρ h rfl hI
    obtain ⟨ρ2, h2, e2, hI2⟩ := loopF_inv I xs (i0 + 1) ρ1 h1 hI1 (fun i y ρ h hy hI => by
      have := hs (i + 1) y ρ h (by simpa using hy) (by rw [show i0 + (i + 1) = i0 + 1 + i by omega]; exact hI)
      rw [show i0 + 1 + i + 1 = i0 + (i + 1) + 1 by omega]
      exact this) (fun ρ h hI => he ρ h (by rw [List.length_cons, show i0 + (xs.length + 1) = i0 + 1 + xs.length by omega]; exact hI))
    refine ⟨ρ2, h2, ?_, by rw [List.length_cons, show i0 + (xs.length + 1) = i0 + 1 + xs.length by omega]; exact hI2⟩
    unfold loopF
    rw [if_pos hg]
    rcases e with e | e
    · rw [e]; exact e2
    · rw [e]; exact e2
theorem loopF_for {body : D → En → Hm → SRes} (I : Nat → En → Hm → Prop) {xs : List D} {ρ : En} {h : Hm} (h0 : I 0 ρ h)
    (hs : ∀ i x ρ h, xs[i]? = some x → I i ρ h → ∃ ρ' h', (body x ρ h = .ok .next ρ' h' ∨ body x ρ h = .ok .cont ρ' h') ∧ I (i + 1) ρ' h') : ∃ ρ' h', loopF none body xs ρ h = .ok .next ρ' h' ∧ I xs.length ρ' h' := by
  have := loopF_inv (g := none) I xs 0 ρ h h0 (fun i x ρ h hx hI => ⟨rfl, by rw [Nat.zero_add] at hI ⊢; exact hs i x ρ h hx hI⟩) (fun _ _ _ => rfl)
  rw [Nat.zero_add] at this
  exact this
/-- a comprehension whose parts leave the heap as it is -/
theorem loopC_map {g : Option (Nat × List D)} {p : Pt} {cond : En → Hm → Res Bool} {elt : En → Hm → Res D} (c : D → Bool) (f : D → D) (hg : guardOk g h = true) :
    ∀ (xs : List D), (∀ x ∈ xs, ∃ ρ2, bindP p x ρ = some ρ2 ∧ cond ρ2 h = .ok (c x) h ∧ (c x = true → elt ρ2 h = .ok (f x) h)) → loopC g p cond elt ρ xs h = .ok ((xs.filter c).map f) h
  | [], _ => by
    unfold loopC
    rw [if_pos hg]
    rfl
  | x :: xs, hx => by
    obtain ⟨ρ2, e1, e2, e3⟩ := hx x (List.mem_cons_self ..)
    have ih := loopC_map c f hg xs fun y hy => hx y (List.mem_cons_of_mem _ hy)
    unfold loopC
    rw [if_pos hg, e1]
    dsimp only
    rw [e2]
    cases hc : c x with
    | true =>
      rw [List.filter_cons_of_pos hc]
      simp [e3 hc, ih]
    | false =>
      rw [List.filter_cons_of_neg (by simp [hc])]
      simp [ih]
theorem loopC_maps {α : Type} {p : Pt} {cond : En → Hm → Res Bool} {elt : En → Hm → Res D} (g : α → D) (c : α → Bool) (f : α → D) :
    ∀ (l : List α), (∀ x ∈ l, ∃ ρ2, bindP p (g x) ρ = some ρ2 ∧ cond ρ2 h = .ok (c x) h ∧ (c x = true → elt ρ2 h = .ok (f x) h)) → loopC none p cond elt ρ (l.map g) h = .ok ((l.filter c).map f) h
  | [], _ => rfl
  | x :: xs, hx => by
    obtain ⟨ρ2, e1, e2, e3⟩ := hx x (List.mem_cons_self ..)
    have ih := loopC_maps g c f xs fun y hy => hx y (List.mem_cons_of_mem _ hy)
    rw [List.map_cons]
    unfold loopC
    rw [show guardOk none h = true from rfl, if_pos rfl, e1]
    dsimp only
    rw [e2]
    cases hc : c x with
    | true =>
      rw [List.filter_cons_of_pos hc]
      simp [e3 hc, ih]
    | false =>
      rw [List.filter_cons_of_neg (by simp [hc])]
      simp [ih]
/-- a comprehension whose parts leave the heap as it is -/
theorem comp_maps {α : Type} {C : Calls} {elt : E} {p : Pt} {it : It} {cond : Option E} {own : List Nat} (l : List α) (g : α → D) (c : α → Bool) (f : α → D) (hi : evI C none it ρ h = .ok (l.map g, none) h) (hl : l.length ≤ big)
    (H : ∀ x ∈ l, ∃ ρ2, bindP p (g x) (wipe ρ own) = some ρ2 ∧ evT C none cond ρ2 h = .ok (c x) h ∧ (c x = true → evE C none elt ρ2 h = .ok (f x) h)) : evE C none (.comp false elt p it cond own) ρ h = .ok (.lst ((l.filter c).map f)) h := by
  rw [e_comp, hi, bind_ok]
  dsimp only
  rw [if_pos (by rw [List.length_map]; exact hl), loopC_maps g c f l H, quiet_ok, bind_ok, newL_pure]
  rw [List.length_map]
  exact Nat.le_trans (List.length_filter_le ..) hl
@[simp] theorem loopC_nil (p : Pt) (c : En → Hm → Res Bool) (e : En → Hm → Res D) : loopC none p c e ρ [] h = .ok [] h := rfl
@[simp] theorem loopC_cons (p : Pt) (c : En → Hm → Res Bool) (e : En → Hm → Res D) (x : D) (xs : List D) : loopC none p c e ρ (x :: xs) h = (match bindP p x ρ with
    | some ρ2 => (c ρ2 h).bind fun b h => if b then (e ρ2 h).bind fun y h => (loopC none p c e ρ xs h).bind fun ys h => .ok (y :: ys) h
        else loopC none p c e ρ xs h
    | none => .stuck) := rfl
@[simp] theorem loopF_nil (b : D → En → Hm → SRes) : loopF none b [] ρ h = .ok .next ρ h := rfl
@[simp] theorem bindP_one (i : Nat) (d : D) : bindP (.one i) d ρ = some (ρ.set i (some d)) := rfl
@[simp] theorem bindP_tup (is : List Nat) (ds : List D) : bindP (.tup is) (.tup ds) ρ = bindN is ds ρ := rfl
@[simp] theorem bindN_nil : bindN [] [] ρ = some ρ := rfl
@[simp] theorem bindN_cons (i : Nat) (is : List Nat) (d : D) (ds : List D) : bindN (i :: is) (d :: ds) ρ = bindN is ds (ρ.set i (some d)) := rfl
theorem all_lst (mk : Bool) (bs : List Bool) : biCall .all mk [.lst (bs.map D.bl)] h = .ok (.bl (bs.all id)) h := by
  have e : allM toB (bs.map D.bl) = some bs := by
    induction bs with
    | nil => rfl
    | cons b r ih => simp only [List.map_cons, allM, toB, ih]
  show allD (.lst (bs.map D.bl)) h = _
  have e2 : boolsD (.lst (bs.map D.bl)) h = some bs := e
  unfold allD
  rw [e2]
@[simp] theorem big_num : big = 16777216 := rfl
@[simp] theorem all_0 (mk : Bool) : biCall .all mk [.lst []] h = .ok (.bl true) h := all_lst mk []
@[simp] theorem all_1 (mk : Bool) (a : Bool) : biCall .all mk [.lst [.bl a]] h = .ok (.bl a) h := by
  have := all_lst (h := h) mk [a]
  simpa using this
@[simp] theorem all_2 (mk : Bool) (a b : Bool) : biCall .all mk [.lst [.bl a, .bl b]] h = .ok (.bl (a && b)) h := by
  have := all_lst (h := h) mk [a, b]
  simpa using this
/-! ### subscripts -/
theorem ix_tup (xs : List D) (i : Int) (d : D) (e : atI xs i = some d) : ixD (.tup xs) (.int i) h = .ok d h := by
  unfold ixD
  simp [getS, e]
theorem ix_lst (xs : List D) (i : Int) (d : D) (e : atI xs i = some d) : ixD (.lst xs) (.int i) h = .ok d h := by
  unfold ixD
  simp [getS, getL, e]
theorem ix_scr (xs : List D) (i : Int) (d : D) (e : atI xs i = some d) : ixD (.scr xs) (.int i) h = .ok d h := by
  unfold ixD
  simp [getS, getL, e]
theorem atI_lt {α : Type} {xs : List α} {k : Nat} (hk : k < xs.length) : atI xs (k : Int) = some xs[k] := atI_nat (List.getElem?_eq_getElem hk)
theorem atI_of {α : Type} {xs : List α} {i : Int} {d : α} (h0 : 0 ≤ i) (e : xs[i.toNat]? = some d) : atI xs i = some d := by
  have := atI_nat e
  rwa [Int.toNat_of_nonneg h0] at this
@[simp] theorem ix_tup0 (x : D) (xs : List D) : ixD (.tup (x :: xs)) (.int 0) h = .ok x h := ix_tup _ _ _ (atI_of (by decide) rfl)
@[simp] theorem ix_tup1 (x y : D) (xs : List D) : ixD (.tup (x :: y :: xs)) (.int 1) h = .ok y h := ix_tup _ _ _ (atI_of (by decide) rfl)
@[simp] theorem ix_tup2 (x y z : D) (xs : List D) : ixD (.tup (x :: y :: z :: xs)) (.int 2) h = .ok z h := ix_tup _ _ _ (atI_of (by decide) rfl)
@[simp] theorem ix_lst0 (x : D) (xs : List D) : ixD (.lst (x :: xs)) (.int 0) h = .ok x h := ix_lst _ _ _ (atI_of (by decide) rfl)
@[simp] theorem ix_lst1 (x y : D) (xs : List D) : ixD (.lst (x :: y :: xs)) (.int 1) h = .ok y h := ix_lst _ _ _ (atI_of (by decide) rfl)
@[simp] theorem ix_lst2 (x y z : D) (xs : List D) : ixD (.lst (x :: y :: z :: xs)) (.int 2) h = .ok z h := ix_lst _ _ _ (atI_of (by decide) rfl)
end
theorem view_plain {h : Hm} {d : D} (e : plainD d = true) : view h d = some (pd d) := viewP_plain e
theorem view_ref {h : Hm} {n : Nat} {xs : List D} (e : h[n]? = some (.lst xs)) (hp : plainDs xs = true) : view h (.ref n) = some (.list (pds xs)) := by
  show look h 3 n = _
  unfold look
  rw [e]
  show (viewPs _ xs).map PyData.list = _
  rw [viewPs_plain hp]; rfl
theorem eqD_of {h : Hm} {a b : D} {x y : PyData} (ha : view h a = some x) (hb : view h b = some y) (sa : SeqAt.shaped x = true) (sb : SeqAt.shaped y = true) : eqD h a b = some (PyData.eqv x y) := by
  unfold eqD
  rw [ha, hb]
  simp [sa, sb]
theorem opC_eq_of {h : Hm} {a b : D} {x y : PyData} (ha : view h a = some x) (hb : view h b = some y) (sa : SeqAt.shaped x = true) (sb : SeqAt.shaped y = true) : opC .eq a b h = .ok (.bl (PyData.eqv x y)) h := by
  unfold opC
  rw [eqD_of ha hb sa sb]
theorem opC_ne_of {h : Hm} {a b : D} {x y : PyData} (ha : view h a = some x) (hb : view h b = some y) (sa : SeqAt.shaped x = true) (sb : SeqAt.shaped y = true) : opC .ne a b h = .ok (.bl (!PyData.eqv x y)) h := by
  unfold opC
  rw [eqD_of ha hb sa sb]
@[simp] theorem opC_eq_int {h : Hm} (i j : Int) : opC .eq (.int i) (.int j) h = .ok (.bl (decide (i = j))) h := by
  rw [opC_eq_of (x := .int i) (y := .int j) rfl rfl rfl rfl]
  simp [PyData.eqv]
  by_cases e : i = j
  · simp [e]
  · simp [e]
@[simp] theorem opC_ne_int {h : Hm} (i j : Int) : opC .ne (.int i) (.int j) h = .ok (.bl (!decide (i = j))) h := by
  rw [opC_ne_of (x := .int i) (y := .int j) rfl rfl rfl rfl]
  simp [PyData.eqv]
  by_cases e : i = j
  · simp [e]
  · simp [e]
@[simp] theorem opC_eq_non_int {h : Hm} (j : Int) : opC .eq .non (.int j) h = .ok (.bl false) h := opC_eq_of (x := .none) (y := .int j) rfl rfl rfl rfl
@[simp] theorem opC_ne_non_int {h : Hm} (j : Int) : opC .ne .non (.int j) h = .ok (.bl true) h := opC_ne_of (x := .none) (y := .int j) rfl rfl rfl rfl
theorem opC_eq_str {h : Hm} (a b : Str) (ha : SeqAt.shaped (.str a) = true) (hb : SeqAt.shaped (.str b) = true) : opC .eq (.str a) (.str b) h = .ok (.bl (decide (a = b))) h := by
  rw [opC_eq_of (x := .str a) (y := .str b) rfl rfl ha hb]
  simp [PyData.eqv]
  by_cases e : a = b
  · simp [e]
  · simp [e]
theorem eq_data {h : Hm} {a b : D} (x y : PyData) (r : Bool) (ha : view h a = some x) (hb : view h b = some y) (c : (SeqAt.shaped x && SeqAt.shaped y && (PyData.eqv x y == r)) = true) : opC .eq a b h = .ok (.bl r) h := by
  simp only [Bool.and_eq_true, beq_iff_eq] at c
  rw [opC_eq_of ha hb c.1.1 c.1.2, c.2]
/-! lists of ints -/
theorem plain_ints : ∀ is : List Int, plainDs (is.map D.int) = true
  | [] => rfl
  | _ :: r => by show (true && plainDs (r.map D.int)) = true; rw [plain_ints r]; rfl
theorem lay_ints : ∀ is : List Int, PyData.canLayAll0 (pds (is.map D.int)) = true
  | [] => rfl
  | _ :: r => by show (true && PyData.canLayAll0 (pds (r.map D.int))) = true; rw [lay_ints r]; rfl
theorem deep_ints : ∀ is : List Int, PyData.depthAll (pds (is.map D.int)) = 0
  | [] => rfl
  | _ :: r => by show max 0 (PyData.depthAll (pds (r.map D.int))) = 0; rw [deep_ints r]; rfl
theorem shaped_ints (is : List Int) : SeqAt.shaped (.list (pds (is.map D.int))) = true := by
  unfold SeqAt.shaped
  have h1 : PyData.canLay0 (.list (pds (is.map D.int))) = true := lay_ints is
  have h2 : PyData.depth (.list (pds (is.map D.int))) = 1 := by
    show PyData.depthAll (pds (is.map D.int)) + 1 = 1
    rw [deep_ints]
  rw [h1, h2]; rfl
theorem eqv_ints : ∀ is js : List Int, PyData.eqvAll (pds (is.map D.int)) (pds (js.map D.int)) = decide (is = js)
  | [], [] => rfl
  | [], _ :: _ => by simp [pds, PyData.eqvAll]
  | _ :: _, [] => by simp [pds, PyData.eqvAll]
  | i :: is, j :: js => by
    show ((i == j) && PyData.eqvAll (pds (is.map D.int)) (pds (js.map D.int))) = _
    rw [eqv_ints is js]
    by_cases e : i = j <;> by_cases e2 : is = js <;> simp [e, e2]
theorem eqv_int_lists (is js : List Int) : PyData.eqv (.list (pds (is.map D.int))) (.list (pds (js.map D.int))) = decide (is = js) := by
  show PyData.eqvAll _ _ = _
  exact eqv_ints is js
/-- n < 2 ^ k -/
theorem log_lt {n k : Nat} (hk : 0 < k) (h : n < 2 ^ k) : n.log2 < k := by
  by_cases e : n = 0
  · subst e
    rw [Nat.log2_zero]; exact hk
  · exact (Nat.log2_lt e).mpr h
theorem log64 {i : Int} (h1 : -18446744073709551616 < i) (h2 : i < 18446744073709551616) : i.natAbs.log2 < 64 := log_lt (by decide) (by
  have e : (2 : Nat) ^ 64 = 18446744073709551616 := by decide
  omega)
theorem opB_mul64 {h : Hm} (mk : Bool) (i j : Int) (h1 : -18446744073709551616 < i) (h2 : i < 18446744073709551616) (h3 : -18446744073709551616 < j) (h4 : j < 18446744073709551616) : opB .mul mk (.int i) (.int j) h = .ok (.int (i * j)) h :=
  opB_mul mk i j (by have a := log64 h1 h2; have b := log64 h3 h4; omega)
theorem opB_fdiv64 {h : Hm} (mk : Bool) (i j : Int) (h1 : 0 < j) (h2 : j < 18446744073709551616) : opB .fdiv mk (.int i) (.int j) h = .ok (.int (i / j)) h :=
  opB_fdiv mk i j ⟨h1, by have a := log64 (i := j) (by omega) h2; omega⟩
/-! nodes -/
theorem getL_ref {h : Hm} {n : Nat} {xs : List D} (e : h[n]? = some (.lst xs)) : getL h (.ref n) = some xs := by
  unfold getL
  dsimp only
  rw [e]
theorem nodeL_ref {h : Hm} {n : Nat} {xs : List D} (e : h[n]? = some (.lst xs)) : nodeL (.ref n) h = some (n, xs) := by
  unfold nodeL
  dsimp only
  rw [e]
theorem recv_ref {h : Hm} {n : Nat} {xs : List D} (e : h[n]? = some (.lst xs)) : recv .append (.ref n) h = true := by
  show (getL h (.ref n)).isSome = true
  rw [getL_ref e]; rfl
theorem append_ref {h : Hm} {n : Nat} {xs : List D} (mk : Bool) (d : D) (e : h[n]? = some (.lst xs)) (c : xs.length < big) : bmCall .append mk (.ref n) [d] h = .ok .non (h.set n (.lst (xs ++ [d]))) := by
  show appendD (.ref n) d h = _
  unfold appendD
  rw [nodeL_ref e]
  dsimp only
  rw [if_pos c]
theorem tup_ref {h : Hm} {n : Nat} {xs : List D} (mk : Bool) (e : h[n]? = some (.lst xs)) : biCall .tupOf mk [.ref n] h = .ok (.tup xs) h := by
  show tupleD (.ref n) h = _
  unfold tupleD
  rw [show getS h (.ref n) = some xs from getL_ref e]
theorem isa_ref {h : Hm} {n : Nat} {xs : List D} (t : Ty) (e : h[n]? = some (.lst xs)) : isaD (.ref n) t h = .ok (.bl (t matches .list | .listTuple)) h := by
  unfold isaD
  dsimp only
  rw [e] <;> rfl
theorem frz_ref {h : Hm} {n : Nat} {xs : List D} (e : h[n]? = some (.lst xs)) (hp : isPs xs = true) : frzD (.ref n) h = .ok (.lst xs) (h.set n .dead) := by
  unfold frzD
  dsimp only
  rw [e]
  dsimp only
  rw [if_pos hp]
theorem isPs_ints : ∀ is : List Int, isPs (is.map D.int) = true
  | [] => rfl
  | _ :: r => by show (true && isPs (r.map D.int)) = true; rw [isPs_ints r]; rfl
theorem any_ints (i : Int) : ∀ is : List Int, (pds (is.map D.int)).any (fun z => PyData.eqv z (.int i)) = is.contains i
  | [] => rfl
  | j :: r => by
    show ((j == i) || (pds (r.map D.int)).any (fun z => PyData.eqv z (.int i))) = _
    rw [any_ints i r, List.contains_cons]
    by_cases e : i = j
    · subst e; simp
    · have e2 : ¬ j = i := fun z => e z.symm
      have h1 : (j == i) = false := by simpa using e2
      have h2 : (i == j) = false := by simpa using e
      rw [h1, h2]
theorem notin_ints {h : Hm} {n : Nat} (i : Int) (is : List Int) (e : h[n]? = some (.lst (is.map D.int))) : opC .notin (.int i) (.ref n) h = .ok (.bl (!is.contains i)) h := by
  unfold opC opC.inD opC.inL
  dsimp only
  rw [e]
  dsimp only
  rw [show getS h (.ref n) = some (is.map D.int) from getL_ref e, show view h (.int i) = some (.int i) from rfl]
  dsimp only
  rw [view_ref e (plain_ints is)]
  dsimp only
  rw [shaped_ints is, any_ints, show SeqAt.shaped (PyData.int i) = true from rfl]
  simp
@[simp] theorem last_node (h : Hm) (x : Node) : (h ++ [x])[h.length]? = some x := by simp
@[simp] theorem set_node (h : Hm) (x y : Node) : List.set (h ++ [x]) h.length y = h ++ [y] := by simp [List.set_append]
@[simp] theorem recv_last (h : Hm) (xs : List D) : recv .append (.ref h.length) (h ++ [.lst xs]) = true := recv_ref (last_node h (.lst xs))
theorem append_last (h : Hm) (xs : List D) (mk : Bool) (d : D) (c : xs.length < big) : bmCall .append mk (.ref h.length) [d] (h ++ [.lst xs]) = .ok .non (h ++ [.lst (xs ++ [d])]) := by
  rw [append_ref mk d (last_node h (.lst xs)) c, set_node]
theorem small_nat {n : Nat} (h : n ≤ 1000) : small (n : Int) = true := by
  unfold small
  rw [decide_eq_true_eq]
  have e : (2 : Int) ^ 62 = 4611686018427387904 := by decide
  omega
theorem small_int {i : Int} (h0 : -1000 ≤ i) (h : i ≤ 1000) : small i = true := by
  unfold small
  rw [decide_eq_true_eq]
  have e : (2 : Int) ^ 62 = 4611686018427387904 := by decide
  omega
/-! ### comprehensions over nodes, slices, sorted sets -/
theorem loopC_mapsG {ρ : En} {h : Hm} {w : Option (Nat × List D)} (hg : guardOk w h = true) {α : Type} {p : Pt} {cond : En → Hm → Res Bool} {elt : En → Hm → Res D} (g : α → D) (c : α → Bool) (f : α → D) :
    ∀ (l : List α), (∀ x ∈ l, ∃ ρ2, bindP p (g x) ρ = some ρ2 ∧ cond ρ2 h = .ok (c x) h ∧ (c x = true → elt ρ2 h = .ok (f x) h)) → loopC w p cond elt ρ (l.map g) h = .ok ((l.filter c).map f) h
  | [], _ => by
    rw [List.map_nil]
    unfold loopC
    rw [if_pos hg]
    rfl
  | x :: xs, hx => by
    obtain ⟨ρ2, e1, e2, e3⟩ := hx x (List.mem_cons_self ..)
    have ih := loopC_mapsG hg g c f xs fun y hy => hx y (List.mem_cons_of_mem _ hy)
    rw [List.map_cons]
    unfold loopC
    rw [if_pos hg, e1]
    dsimp only
    rw [e2]
    cases hc : c x with
    | true =>
      rw [List.filter_cons_of_pos hc]
      simp [e3 hc, ih]
    | false =>
      rw [List.filter_cons_of_neg (by simp [hc])]
      simp [ih]
/-- a comprehension over a list that lies at a node; its parts leave the heap as it is -/
theorem comp_mapsG {ρ : En} {h : Hm} {α : Type} {C : Calls} {elt : E} {p : Pt} {it : It} {cond : Option E} {own : List Nat} {w : Option (Nat × List D)} (l : List α) (g : α → D) (c : α → Bool) (f : α → D) (hi : evI C none it ρ h = .ok (l.map g, w) h) (hg : guardOk w h = true) (hl : l.length ≤ big)
    (H : ∀ x ∈ l, ∃ ρ2, bindP p (g x) (wipe ρ own) = some ρ2 ∧ evT C none cond ρ2 h = .ok (c x) h ∧ (c x = true → evE C none elt ρ2 h = .ok (f x) h)) : evE C none (.comp false elt p it cond own) ρ h = .ok (.lst ((l.filter c).map f)) h := by
  rw [e_comp, hi, bind_ok]
  dsimp only
  rw [if_pos (by rw [List.length_map]; exact hl), loopC_mapsG hg g c f l H, quiet_ok, bind_ok, newL_pure]
  rw [List.length_map]
  exact Nat.le_trans (List.length_filter_le ..) hl
/-- as comp_mapsG, with no test -/
theorem comp_allG {ρ : En} {h : Hm} {α : Type} {C : Calls} {elt : E} {p : Pt} {it : It} {own : List Nat} {w : Option (Nat × List D)} (l : List α) (g : α → D) (f : α → D) (hi : evI C none it ρ h = .ok (l.map g, w) h) (hg : guardOk w h = true) (hl : l.length ≤ big)
    (H : ∀ x ∈ l, ∃ ρ2, bindP p (g x) (wipe ρ own) = some ρ2 ∧ evE C none elt ρ2 h = .ok (f x) h) : evE C none (.comp false elt p it none own) ρ h = .ok (.lst (l.map f)) h := by
  have := comp_mapsG (elt := elt) (p := p) (cond := none) (own := own) l g (fun _ => true) f hi hg hl fun x hx => by
    obtain ⟨ρ2, e1, e2⟩ := H x hx
    exact ⟨ρ2, e1, rfl, fun _ => e2⟩
  rwa [List.filter_eq_self.mpr fun _ _ => rfl] at this
theorem iterSeq_ref {h : Hm} {n : Nat} {xs : List D} (e : h[n]? = some (.lst xs)) : iterSeq (.ref n) h = .ok (xs, some (n, xs)) h := by
  unfold iterSeq walkOf
  dsimp only
  rw [e]
theorem iterRev_ref {h : Hm} {n : Nat} {xs : List D} (e : h[n]? = some (.lst xs)) : iterRev (.ref n) h = .ok (xs.reverse, some (n, xs)) h := by
  unfold iterRev walkOf
  dsimp only
  rw [e]
theorem guard_ref {h : Hm} {n : Nat} {xs : List D} (e : h[n]? = some (.lst xs)) : guardOk (some (n, xs)) h = true := by
  unfold guardOk
  dsimp only
  rw [e]
  simp
theorem cutD_take {α : Type} (xs : List α) (k : Nat) : cutD xs none (some (k : Int)) = xs.take k := by
  unfold cutD
  rw [HT.sIx_nat, HT.sIx_none, Nat.sub_zero, List.drop_zero]
  rcases Nat.le_total k xs.length with c | c
  · rw [Nat.min_eq_left c]
  · rw [Nat.min_eq_right c, List.take_length, List.take_of_length_le c]
theorem cutD_drop {α : Type} (xs : List α) (k : Nat) : cutD xs (some (k : Int)) none = xs.drop k := by
  unfold cutD
  rw [HT.sIx_nat, HT.sIx_none]
  rcases Nat.le_total k xs.length with c | c
  · rw [Nat.min_eq_left c, List.take_of_length_le]
    rw [List.length_drop]
    exact Nat.le_refl _
  · rw [Nat.min_eq_right c, List.drop_length, List.drop_of_length_le c, List.take_nil]
theorem cut_ref {h : Hm} {n : Nat} {xs : List D} (e : h[n]? = some (.lst xs)) (mk : Bool) (lo hi : Option Int) : cutOp mk (.ref n) lo hi h = newL mk (cutD xs lo hi) h := by
  unfold cutOp
  dsimp only
  rw [getL_ref e]
@[simp] theorem e_sset {C : Calls} {ρ : En} {h : Hm} (mk : Bool) (a : E) : evE C none (.sset mk a) ρ h = (evE C none a ρ h).bind fun x h => sortedSetD mk x h := rfl
theorem allM_ints : ∀ is : List Int, allM toI (is.map D.int) = some is
  | [] => rfl
  | i :: r => by simp only [List.map_cons, allM, toI, allM_ints r]
theorem insU_len (x : Int) : ∀ l, (insU x l).length ≤ l.length + 1
  | [] => Nat.le_refl _
  | y :: r => by
    unfold insU
    split
    · exact Nat.le_refl _
    · split
      · simp
      · have := insU_len x r
        simp
        exact this
theorem sortU_len : ∀ l, (sortU l).length ≤ l.length
  | [] => Nat.le_refl _
  | x :: r => by
    unfold sortU
    have := insU_len x (sortU r)
    have := sortU_len r
    simp
    omega
theorem sset_lst {h : Hm} (is : List Int) (c : is.length < 60) : sortedSetD false (.lst (is.map .int)) h = newL false ((sortU is).map .int) h := by
  unfold sortedSetD
  have e : intsD (.lst (is.map .int)) h = some is := by
    show Option.bind (some (is.map D.int)) (allM toI) = _
    exact allM_ints is
  rw [e]
  dsimp only
  rw [if_pos ⟨by omega, Nat.lt_of_le_of_lt (sortU_len is) c⟩]
end L2.Mini
set_option Elab.async false
set_option linter.all false
set_option maxRecDepth 100000
set_option maxHeartbeats 1000000
/-! Mini: data that no node is in, of a depth; what it is equal to. -/
namespace L2.Mini
open PySem L2
mutual
def okD : Nat → D → Bool
  | _, .non => true
  | _, .bl _ => true
  | _, .int _ => true
  | _, .str x => PyData.canLay0 (.str x)
  | k, .tup xs => decide (0 < k) && okDs (k - 1) xs
  | k, .lst xs => decide (0 < k) && okDs (k - 1) xs
  | k, .scr xs => decide (0 < k) && okDs (k - 1) xs
  | _, .ref _ => false
  | _, .ins _ _ => false
def okDs : Nat → List D → Bool
  | _, [] => true
  | k, x :: xs => okD k x && okDs k xs
end
mutual
theorem okD_plain : ∀ {k : Nat} {d : D}, okD k d = true → plainD d = true
  | _, .non, _ => rfl
  | _, .bl _, _ => rfl
  | _, .int _, _ => rfl
  | _, .str _, _ => rfl
  | k, .tup xs, h => by
    have h' : (decide (0 < k) && okDs (k - 1) xs) = true := by simpa [okD] using h
    exact okDs_plain (Bool.and_eq_true_iff.mp h').2
  | k, .lst xs, h => by
    have h' : (decide (0 < k) && okDs (k - 1) xs) = true := by simpa [okD] using h
    exact okDs_plain (Bool.and_eq_true_iff.mp h').2
  | k, .scr xs, h => by
    have h' : (decide (0 < k) && okDs (k - 1) xs) = true := by simpa [okD] using h
    exact okDs_plain (Bool.and_eq_true_iff.mp h').2
  | _, .ref _, h => by simp [okD] at h
  | _, .ins _ _, h => by simp [okD] at h
theorem okDs_plain : ∀ {k : Nat} {xs : List D}, okDs k xs = true → plainDs xs = true
  | _, [], _ => rfl
  | k, x :: xs, h => by
    have h' : (okD k x && okDs k xs) = true := by simpa [okDs] using h
    rw [Bool.and_eq_true] at h'
    show (plainD x && plainDs xs) = true
    rw [okD_plain h'.1, okDs_plain h'.2]; rfl
end
mutual
theorem okD_lay : ∀ {k : Nat} {d : D}, okD k d = true → PyData.canLay0 (pd d) = true
  | _, .non, _ => rfl
  | _, .bl _, _ => rfl
  | _, .int _, _ => rfl
  | _, .str _, h => h
  | k, .tup xs, h => by
    have h' : (decide (0 < k) && okDs (k - 1) xs) = true := by simpa [okD] using h
    exact okDs_lay (Bool.and_eq_true_iff.mp h').2
  | k, .lst xs, h => by
    have h' : (decide (0 < k) && okDs (k - 1) xs) = true := by simpa [okD] using h
    exact okDs_lay (Bool.and_eq_true_iff.mp h').2
  | k, .scr xs, h => by
    have h' : (decide (0 < k) && okDs (k - 1) xs) = true := by simpa [okD] using h
    exact okDs_lay (Bool.and_eq_true_iff.mp h').2
  | _, .ref _, h => by simp [okD] at h
  | _, .ins _ _, h => by simp [okD] at h
theorem okDs_lay : ∀ {k : Nat} {xs : List D}, okDs k xs = true → PyData.canLayAll0 (pds xs) = true
  | _, [], _ => rfl
  | k, x :: xs, h => by
    have h' : (okD k x && okDs k xs) = true := by simpa [okDs] using h
    rw [Bool.and_eq_true] at h'
    show (PyData.canLay0 (pd x) && PyData.canLayAll0 (pds xs)) = true
    rw [okD_lay h'.1, okDs_lay h'.2]; rfl
end
mutual
theorem okD_depth : ∀ {k : Nat} {d : D}, okD k d = true → PyData.depth (pd d) ≤ k
  | _, .non, _ => Nat.zero_le _
  | _, .bl _, _ => Nat.zero_le _
  | _, .int _, _ => Nat.zero_le _
  | _, .str _, h => Nat.zero_le _
  | k, .tup xs, h => by
    have h' : (decide (0 < k) && okDs (k - 1) xs) = true := by simpa [okD] using h
    rw [Bool.and_eq_true, decide_eq_true_eq] at h'
    have := okDs_depth h'.2
    show PyData.depthAll (pds xs) + 1 ≤ k
    omega
  | k, .lst xs, h => by
    have h' : (decide (0 < k) && okDs (k - 1) xs) = true := by simpa [okD] using h
    rw [Bool.and_eq_true, decide_eq_true_eq] at h'
    have := okDs_depth h'.2
    show PyData.depthAll (pds xs) + 1 ≤ k
    omega
  | k, .scr xs, h => by
    have h' : (decide (0 < k) && okDs (k - 1) xs) = true := by simpa [okD] using h
    rw [Bool.and_eq_true, decide_eq_true_eq] at h'
    have := okDs_depth h'.2
    show PyData.depthAll (pds xs) + 1 ≤ k
    omega
  | _, .ref _, h => by simp [okD] at h
  | _, .ins _ _, h => by simp [okD] at h
theorem okDs_depth : ∀ {k : Nat} {xs : List D}, okDs k xs = true → PyData.depthAll (pds xs) ≤ k
  | _, [], _ => Nat.zero_le _
  | k, x :: xs, h => by
    have h' : (okD k x && okDs k xs) = true := by simpa [okDs] using h
    rw [Bool.and_eq_true] at h'
    have h1 := okD_depth h'.1
    have h2 := okDs_depth h'.2
    show max (PyData.depth (pd x)) (PyData.depthAll (pds xs)) ≤ k
    omega
end
theorem okD_shaped {k : Nat} {d : D} (h : okD k d = true) (hk : k ≤ 64) : SeqAt.shaped (pd d) = true := by
  unfold SeqAt.shaped
  rw [okD_lay h, decide_eq_true (Nat.le_trans (okD_depth h) hk)]; rfl
theorem okDs_map {α : Type} {k : Nat} (f : α → D) : ∀ (l : List α), (∀ x ∈ l, okD k (f x) = true) → okDs k (l.map f) = true
  | [], _ => rfl
  | x :: xs, h => by
    show (okD k (f x) && okDs k (xs.map f)) = true
    rw [h x (List.mem_cons_self ..), okDs_map f xs fun y hy => h y (List.mem_cons_of_mem _ hy)]; rfl
theorem okDs_mem {k : Nat} : ∀ {l : List D}, (∀ x ∈ l, okD k x = true) → okDs k l = true := fun {l} h => by
  have := okDs_map (k := k) (fun x : D => x) l h
  simpa using this
theorem okDs_get {k : Nat} : ∀ {l : List D} {x : D}, okDs k l = true → x ∈ l → okD k x = true
  | [], _, _, h => by simp at h
  | y :: l, x, h, hx => by
    have h' : (okD k y && okDs k l) = true := by simpa [okDs] using h
    rw [Bool.and_eq_true] at h'
    rcases List.mem_cons.mp hx with e | e
    · rw [e]; exact h'.1
    · exact okDs_get h'.2 e
mutual
theorem okD_mono : ∀ {k m : Nat} {d : D}, k ≤ m → okD k d = true → okD m d = true
  | _, _, .non, _, _ => rfl
  | _, _, .bl _, _, _ => rfl
  | _, _, .int _, _, _ => rfl
  | _, _, .str _, _, h => by simpa [okD] using h
  | k, m, .tup xs, hk, h => by
    simp only [okD, Bool.and_eq_true, decide_eq_true_eq] at h ⊢
    exact ⟨by omega, okDs_mono (by omega) h.2⟩
  | k, m, .lst xs, hk, h => by
    simp only [okD, Bool.and_eq_true, decide_eq_true_eq] at h ⊢
    exact ⟨by omega, okDs_mono (by omega) h.2⟩
  | k, m, .scr xs, hk, h => by
    simp only [okD, Bool.and_eq_true, decide_eq_true_eq] at h ⊢
    exact ⟨by omega, okDs_mono (by omega) h.2⟩
  | _, _, .ref _, _, h => by simp [okD] at h
  | _, _, .ins _ _, _, h => by simp [okD] at h
theorem okDs_mono : ∀ {k m : Nat} {xs : List D}, k ≤ m → okDs k xs = true → okDs m xs = true
  | _, _, [], _, _ => rfl
  | k, m, x :: xs, hk, h => by
    simp only [okDs, Bool.and_eq_true] at h ⊢
    exact ⟨okD_mono hk h.1, okDs_mono hk h.2⟩
end
theorem view_lstn {h : Hm} {n k : Nat} {xs : List D} (e : h[n]? = some (.lst xs)) (ok : okDs k xs = true) : view h (.ref n) = some (pd (.lst xs)) := view_ref e (okDs_plain ok)
theorem view_ok {h : Hm} {k : Nat} {d : D} (ok : okD k d = true) : view h d = some (pd d) := view_plain (okD_plain ok)
theorem ne_self {h : Hm} {a b : D} {x : PyData} (ha : view h a = some x) (hb : view h b = some x) (s : SeqAt.shaped x = true) : opC .ne a b h = .ok (.bl false) h := by
  rw [opC_ne_of ha hb s s, PySem.SeqAt.eqv_refl x (SeqAt.canLay_of_shaped s)]; rfl
theorem eq_self {h : Hm} {a b : D} {x : PyData} (ha : view h a = some x) (hb : view h b = some x) (s : SeqAt.shaped x = true) : opC .eq a b h = .ok (.bl true) h := by
  rw [opC_eq_of ha hb s s, PySem.SeqAt.eqv_refl x (SeqAt.canLay_of_shaped s)]
theorem ne_ok {h : Hm} (d : D) (ok : okD 60 d = true) : opC .ne d d h = .ok (.bl false) h := ne_self (view_ok ok) (view_ok ok) (okD_shaped ok (by decide))
theorem eq_ok {h : Hm} (d : D) (ok : okD 60 d = true) : opC .eq d d h = .ok (.bl true) h := eq_self (view_ok ok) (view_ok ok) (okD_shaped ok (by decide))
/-! without truths: equal is the same -/
mutual
def strD0 : D → Bool
  | .non => true
  | .int _ => true
  | .str _ => true
  | .tup xs => strDs0 xs
  | .lst xs => strDs0 xs
  | _ => false
def strDs0 : List D → Bool
  | [] => true
  | x :: xs => strD0 x && strDs0 xs
end
mutual
theorem eqv_strict : ∀ {a b : D}, strD0 a = true → strD0 b = true → PyData.eqv (pd a) (pd b) = true → a = b
  | .non, b, _, hb, h => by cases b <;> simp [strD0] at hb <;> simp [pd, PyData.eqv] at h <;> rfl
  | .int i, b, _, hb, h => by cases b <;> simp [strD0] at hb <;> simp [pd, PyData.eqv] at h <;> rw [h]
  | .str i, b, _, hb, h => by cases b <;> simp [strD0] at hb <;> simp [pd, PyData.eqv] at h <;> rw [h]
  | .tup xs, b, ha, hb, h => by
    cases b <;> simp [strD0] at hb <;> simp [pd, PyData.eqv] at h
    rw [eqv_stricts (by simpa [strD0] using ha) hb h]
  | .lst xs, b, ha, hb, h => by
    cases b <;> simp [strD0] at hb <;> simp [pd, PyData.eqv] at h
    rw [eqv_stricts (by simpa [strD0] using ha) hb h]
  | .bl _, _, ha, _, _ => by simp [strD0] at ha
  | .scr _, _, ha, _, _ => by simp [strD0] at ha
  | .ref _, _, ha, _, _ => by simp [strD0] at ha
  | .ins _ _, _, ha, _, _ => by simp [strD0] at ha
theorem eqv_stricts : ∀ {a b : List D}, strDs0 a = true → strDs0 b = true → PyData.eqvAll (pds a) (pds b) = true → a = b
  | [], b, _, hb, h => by cases b <;> simp [pds, PyData.eqvAll] at h <;> rfl
  | x :: xs, b, ha, hb, h => by
    cases b with
    | nil => simp [pds, PyData.eqvAll] at h
    | cons y ys =>
      simp [pds, PyData.eqvAll] at h
      simp [strDs0] at ha hb
      rw [eqv_strict ha.1 hb.1 h.1, eqv_stricts ha.2 hb.2 h.2]
end
theorem eqv_dec {a b : D} {k : Nat} (ha : strD0 a = true) (hb : strD0 b = true) (oa : okD k a = true) : PyData.eqv (pd a) (pd b) = decide (a = b) := by
  by_cases e : a = b
  · subst e
    rw [PySem.SeqAt.eqv_refl _ (okD_lay oa)]; simp
  · rw [decide_eq_false e]
    cases h : PyData.eqv (pd a) (pd b) with
    | false => rfl
    | true => exact absurd (eqv_strict ha hb h) e
theorem strDs0_map {α : Type} (f : α → D) : ∀ (l : List α), (∀ x ∈ l, strD0 (f x) = true) → strDs0 (l.map f) = true
  | [], _ => rfl
  | x :: xs, h => by
    show (strD0 (f x) && strDs0 (xs.map f)) = true
    rw [h x (List.mem_cons_self ..), strDs0_map f xs fun y hy => h y (List.mem_cons_of_mem _ hy)]; rfl
theorem eq_dec {h : Hm} {a b : D} (oa : okD 60 a = true) (ob : okD 60 b = true) (ha : strD0 a = true) (hb : strD0 b = true) : opC .eq a b h = .ok (.bl (decide (a = b))) h := by
  rw [opC_eq_of (view_ok oa) (view_ok ob) (okD_shaped oa (by decide)) (okD_shaped ob (by decide)), eqv_dec ha hb oa]
theorem ne_dec {h : Hm} {a b : D} (oa : okD 60 a = true) (ob : okD 60 b = true) (ha : strD0 a = true) (hb : strD0 b = true) : opC .ne a b h = .ok (.bl (!decide (a = b))) h := by
  rw [opC_ne_of (view_ok oa) (view_ok ob) (okD_shaped oa (by decide)) (okD_shaped ob (by decide)), eqv_dec ha hb oa]
/-- d in xs, by equal is the same -/
theorem any_dec {d : D} {k : Nat} (hd : strD0 d = true) : ∀ {xs : List D}, strDs0 xs = true → okDs k xs = true → ((pds xs).any fun z => PyData.eqv z (pd d)) = decide (d ∈ xs)
  | [], _, _ => by simp [pds]
  | x :: xs, hs, ok => by
    simp only [strDs0, okDs, Bool.and_eq_true] at hs ok
    show (PyData.eqv (pd x) (pd d) || (pds xs).any fun z => PyData.eqv z (pd d)) = _
    rw [any_dec hd hs.2 ok.2, eqv_dec hs.1 hd ok.1]
    by_cases e : d = x
    · subst e; simp
    · have e2 : ¬ x = d := fun z => e z.symm
      simp [e, e2]
theorem inL_ok {h : Hm} {x y : D} {xs : List D} {k : Nat} (neg : Bool) (hy : getS h y = some xs) (vy : view h y = some (.list (pds xs))) (hs : strDs0 xs = true) (ok : okDs k xs = true) (hk : k < 64) (hx : strD0 x = true) (okx : okD 60 x = true) : opC.inL x y h neg = .ok (.bl (neg ^^ decide (x ∈ xs))) h := by
  unfold opC.inL
  rw [hy, view_ok okx]
  dsimp only
  rw [vy]
  dsimp only
  have h1 : SeqAt.shaped (PyData.list (pds xs)) = true := by
    have := okD_shaped (k := k + 1) (d := .lst xs) (by simp [okD, ok]) hk
    exact this
  rw [okD_shaped okx (by decide), h1, any_dec hx hs ok]
  rfl
/-! ### comprehensions that make a node or not -/
theorem comp_mapsN {ρ : En} {h : Hm} {α : Type} {C : Calls} {mk : Bool} {elt : E} {p : Pt} {it : It} {cond : Option E} {own : List Nat} {w : Option (Nat × List D)} (l : List α) (g : α → D) (c : α → Bool) (f : α → D) (hi : evI C none it ρ h = .ok (l.map g, w) h) (hg : guardOk w h = true) (hl : l.length ≤ big)
    (H : ∀ x ∈ l, ∃ ρ2, bindP p (g x) (wipe ρ own) = some ρ2 ∧ evT C none cond ρ2 h = .ok (c x) h ∧ (c x = true → evE C none elt ρ2 h = .ok (f x) h)) : evE C none (.comp mk elt p it cond own) ρ h = newL mk ((l.filter c).map f) h := by
  rw [e_comp, hi, bind_ok]
  dsimp only
  rw [if_pos (by rw [List.length_map]; exact hl), loopC_mapsG hg g c f l H, quiet_ok, bind_ok]
theorem comp_allN {ρ : En} {h : Hm} {α : Type} {C : Calls} {mk : Bool} {elt : E} {p : Pt} {it : It} {own : List Nat} {w : Option (Nat × List D)} (l : List α) (g : α → D) (f : α → D) (hi : evI C none it ρ h = .ok (l.map g, w) h) (hg : guardOk w h = true) (hl : l.length ≤ big)
    (H : ∀ x ∈ l, ∃ ρ2, bindP p (g x) (wipe ρ own) = some ρ2 ∧ evE C none elt ρ2 h = .ok (f x) h) : evE C none (.comp mk elt p it none own) ρ h = newL mk (l.map f) h := by
  have := comp_mapsN (mk := mk) (elt := elt) (p := p) (cond := none) (own := own) l g (fun _ => true) f hi hg hl fun x hx => by
    obtain ⟨ρ2, e1, e2⟩ := H x hx
    exact ⟨ρ2, e1, rfl, fun _ => e2⟩
  rwa [List.filter_eq_self.mpr fun _ _ => rfl] at this
/-! ### steps of a suite -/
theorem seq_step {C : Calls} {cur : Cur} {s : S} {r : List S} {ρ ρ1 : En} {h h1 : Hm} (e : exS C cur s ρ h = .ok .next ρ1 h1) : exB C cur (s :: r) ρ h = exB C cur r ρ1 h1 := by
  rw [x_cons, e, seqB_next]
theorem seq_ret {C : Calls} {cur : Cur} {s : S} {r : List S} {ρ ρ1 : En} {h h1 : Hm} {d : D} (e : exS C cur s ρ h = .ok (.ret d) ρ1 h1) : exB C cur (s :: r) ρ h = .ok (.ret d) ρ1 h1 := by
  rw [x_cons, e, seqB_ret]
theorem seq_exc {C : Calls} {cur : Cur} {s : S} {r : List S} {ρ ρ1 : En} {h h1 : Hm} {c : Nat} {fs : List (Nat × D)} (e : exS C cur s ρ h = .exc c fs ρ1 h1) : exB C cur (s :: r) ρ h = .exc c fs ρ1 h1 := by
  rw [x_cons, e, seqB_exc]
theorem exB_app {C : Calls} {cur : Cur} {r : List S} {ρ1 : En} {h1 : Hm} : ∀ {a : List S} {ρ : En} {h : Hm}, exB C cur a ρ h = .ok .next ρ1 h1 → exB C cur (a ++ r) ρ h = exB C cur r ρ1 h1
  | [], ρ, h, e => by
    rw [x_nil] at e
    cases e
    rfl
  | s :: a, ρ, h, e => by
    rw [x_cons] at e
    show exB C cur (s :: (a ++ r)) ρ h = _
    rw [x_cons]
    cases hs : exS C cur s ρ h with
    | ok f ρ2 h2 =>
      rw [hs] at e
      cases f with
      | next =>
        rw [seqB_next] at e ⊢
        exact exB_app e
      | brk => cases e
      | cont => cases e
      | ret d => cases e
    | exc c fs ρ2 h2 => rw [hs] at e; cases e
    | stuck => rw [hs] at e; cases e
theorem gc_garb {h0 h1 g : Hm} {d : D} (e : h1.length = h0.length) : ∃ g', gcD h0 (.ok d (h1 ++ g)) = .ok d (h1 ++ g') := by
  unfold gcD
  dsimp only
  split
  · exact ⟨[], by rw [List.take_left' e, List.append_nil]⟩
  · exact ⟨g, rfl⟩
theorem gc_garbX {h0 h1 g : Hm} {c : Nat} {fs : List (Nat × D)} (e : h1.length = h0.length) : ∃ g', gcD h0 (.exc c fs (h1 ++ g)) = .exc c fs (h1 ++ g') := by
  unfold gcD
  dsimp only
  split
  · exact ⟨[], by rw [List.take_left' e, List.append_nil]⟩
  · exact ⟨g, rfl⟩
@[simp] theorem at_app (h g : Hm) (i : Nat) : (h ++ g)[h.length + i]? = g[i]? := by
  rw [List.getElem?_append_right (Nat.le_add_right ..), Nat.add_sub_cancel_left]
@[simp] theorem at_app0 (h g : Hm) : (h ++ g)[h.length]? = g[0]? := by
  rw [List.getElem?_append_right (Nat.le_refl _), Nat.sub_self]
theorem at_left {h g : Hm} {n : Nat} {x : Node} (e : h[n]? = some x) : (h ++ g)[n]? = some x := by
  rw [List.getElem?_append_left (List.getElem?_eq_some_iff.mp e).1]; exact e
@[simp] theorem set_app (h g : Hm) (i : Nat) (y : Node) : (h ++ g).set (h.length + i) y = h ++ g.set i y := by
  rw [List.set_append_right _ _ (Nat.le_add_right ..), Nat.add_sub_cancel_left]
@[simp] theorem set_app0 (h g : Hm) (y : Node) : (h ++ g).set h.length y = h ++ g.set 0 y := by
  rw [List.set_append_right _ _ (Nat.le_refl _), Nat.sub_self]
theorem set_left {h g : Hm} {n : Nat} {y : Node} (e : n < h.length) : (h ++ g).set n y = h.set n y ++ g := List.set_append_left _ _ e
theorem gcX_drop {h g : Hm} {c : Nat} : gcD h (.exc c [] (h ++ g)) = .exc c [] h := by
  unfold gcD
  dsimp only
  rw [if_pos ⟨rfl, .inl (List.take_left' rfl)⟩, List.take_left' rfl]
theorem gcX_same {h : Hm} {c : Nat} : gcD h (.exc c [] h) = .exc c [] h := by
  have := gcX_drop (h := h) (g := []) (c := c)
  rwa [List.append_nil] at this
theorem sset_lstN {h : Hm} (mk : Bool) (is : List Int) (c : is.length < 60) : sortedSetD mk (.lst (is.map .int)) h = newL mk ((sortU is).map .int) h := by
  unfold sortedSetD
  have e : intsD (.lst (is.map .int)) h = some is := by
    show Option.bind (some (is.map D.int)) (allM toI) = _
    exact allM_ints is
  rw [e]
  dsimp only
  rw [if_pos ⟨by omega, Nat.lt_of_le_of_lt (sortU_len is) c⟩]
theorem sset_many {h : Hm} (mk : Bool) (is : List Int) (c : is.length < 4000) (c2 : ∀ i ∈ is, 0 ≤ i ∧ i < 50) : sortedSetD mk (.lst (is.map .int)) h = newL mk ((sortU is).map .int) h := by
  unfold sortedSetD
  have e : intsD (.lst (is.map .int)) h = some is := by
    show Option.bind (some (is.map D.int)) (allM toI) = _
    exact allM_ints is
  rw [e]
  dsimp only
  have h2 : (sortU is).length ≤ 50 := by
    have nd : (sortU is).Nodup := (sortU_up is).imp fun h => Int.ne_of_lt h
    have := nd_le (sortU is) ((List.range 50).map fun k : Nat => (k : Int)) nd fun x hx => by
      have := c2 x ((sortU_mem x is).mp hx)
      exact List.mem_map.mpr ⟨x.toNat, List.mem_range.mpr (by omega), by omega⟩
    rwa [List.length_map, List.length_range] at this
  rw [if_pos ⟨c, by omega⟩]
theorem ne_data {h : Hm} {a b : D} (x y : PyData) (r : Bool) (ha : view h a = some x) (hb : view h b = some y) (c : (SeqAt.shaped x && SeqAt.shaped y && ((!PyData.eqv x y) == r)) = true) : opC .ne a b h = .ok (.bl r) h := by
  simp only [Bool.and_eq_true, beq_iff_eq] at c
  rw [opC_ne_of ha hb c.1.1 c.1.2, c.2]
@[simp] theorem e_inv {C : Calls} {cur : Cur} {ρ : En} {h : Hm} (a : E) : evE C cur (.inv a) ρ h = (evE C cur a ρ h).bind invD := rfl
/-! ### loops by what they keep -/
theorem loopF_fold {α σ : Type} {g : Option (Nat × List D)} {body : D → En → Hm → SRes} (f : α → D) (step : σ → α → σ) (J : σ → En → Hm → Prop) (hg : ∀ s ρ h, J s ρ h → guardOk g h = true) :
    ∀ (l : List α) (s : σ) (ρ : En) (h : Hm), J s ρ h → (∀ s ρ h x, x ∈ l → J s ρ h → ∃ ρ' h', (body (f x) ρ h = .ok .next ρ' h' ∨ body (f x) ρ h = .ok .cont ρ' h') ∧ J (step s x) ρ' h') →
    ∃ ρ' h', loopF g body (l.map f) ρ h = .ok .next ρ' h' ∧ J (l.foldl step s) ρ' h'
  | [], s, ρ, h, hj, _ => by
    refine ⟨ρ, h, ?_, hj⟩
    rw [List.map_nil]
    unfold loopF
    rw [if_pos (hg s ρ h hj)]
  | x :: l, s, ρ, h, hj, hb => by
    obtain ⟨ρ1, h1, e1, j1⟩ := hb s ρ h x (List.mem_cons_self ..) hj
    obtain ⟨ρ2, h2, e2, j2⟩ := loopF_fold f step J hg l (step s x) ρ1 h1 j1 fun s ρ h y hy => hb s ρ h y (List.mem_cons_of_mem _ hy)
    refine ⟨ρ2, h2, ?_, j2⟩
    rw [List.map_cons]
    unfold loopF
    rw [if_pos (hg s ρ h hj)]
    rcases e1 with e1 | e1 <;> (rw [e1]; exact e2)
theorem loopW_ind {test : En → Hm → Res Bool} {body : En → Hm → SRes} (I : Nat → En → Hm → Prop)
    (hs : ∀ k ρ h, I k ρ h → test ρ h = .ok false h ∨ (test ρ h = .ok true h ∧ ∃ k' ρ' h', k' < k ∧ (body ρ h = .ok .next ρ' h' ∨ body ρ h = .ok .cont ρ' h') ∧ I k' ρ' h')) :
    ∀ n k ρ h, I k ρ h → k < n → ∃ k' ρ' h', loopW test body n ρ h = .ok .next ρ' h' ∧ I k' ρ' h' ∧ test ρ' h' = .ok false h'
  | 0, _, _, _, _, h => absurd h (Nat.not_lt_zero _)
  | n + 1, k, ρ, h, hi, hk => by
    rcases hs k ρ h hi with e | ⟨e, k1, ρ1, h1, hlt, e1, i1⟩
    · refine ⟨k, ρ, h, ?_, hi, e⟩
      unfold loopW
      rw [e]
    · obtain ⟨k2, ρ2, h2, e2, i2, t2⟩ := loopW_ind I hs n k1 ρ1 h1 i1 (by omega)
      refine ⟨k2, ρ2, h2, ?_, i2, t2⟩
      unfold loopW
      rw [e]
      dsimp only
      rcases e1 with e1 | e1 <;> (rw [e1]; exact e2)
theorem enumD_map {α : Type} (f : α → D) : ∀ (l : List α) (i : Nat), enumD i (l.map f) = (l.zipIdx i).map fun p => D.tup [.int (p.2 : Int), f p.1]
  | [], _ => rfl
  | x :: l, i => by
    rw [List.map_cons, List.zipIdx_cons, List.map_cons, ← enumD_map f l (i + 1)]
    rfl
/-! texts that are written out -/
theorem char_lt (c : Char) : c.toNat < 0x110000 := by
  have := c.valid
  unfold UInt32.isValidChar Nat.isValidChar at this
  have e : c.toNat = c.val.toNat := rfl
  omega
theorem str_inj {a b : String} (h : Str.ofString a = Str.ofString b) : a = b := by
  rw [Str.ofString_eq_toList, Str.ofString_eq_toList] at h
  have h1 : a.toList.map Char.toNat = b.toList.map Char.toNat := by
    have := congrArg Str.cps h
    simpa using this
  have h2 : a.toList = b.toList := by
    refine (List.map_inj_right fun x y e => ?_).mp h1
    exact Char.ext (UInt32.toNat_inj.mp e)
  exact String.toList_inj.mp h2
@[simp] theorem str_eq_iff (a b : String) : (Str.ofString a = Str.ofString b) = (a = b) := propext ⟨str_inj, fun e => by rw [e]⟩
@[simp] theorem lay_str (s : String) : PyData.canLay0 (.str (Str.ofString s)) = true := by
  show PyData.strOk (Str.ofString s) = true
  rw [Str.ofString_eq_toList]
  unfold PyData.strOk
  simp
  intro x _
  exact char_lt x
theorem shaped_str (s : String) : SeqAt.shaped (.str (Str.ofString s)) = true := by
  unfold SeqAt.shaped
  rw [lay_str]; rfl
@[simp] theorem opC_eq_strs {h : Hm} (a b : String) : opC .eq (.str (Str.ofString a)) (.str (Str.ofString b)) h = .ok (.bl (decide (a = b))) h := by
  rw [opC_eq_str _ _ (shaped_str a) (shaped_str b)]
  simp
@[simp] theorem opC_ne_strs {h : Hm} (a b : String) : opC .ne (.str (Str.ofString a)) (.str (Str.ofString b)) h = .ok (.bl (!decide (a = b))) h := by
  rw [opC_ne_of (x := .str (Str.ofString a)) (y := .str (Str.ofString b)) rfl rfl (shaped_str a) (shaped_str b)]
  simp [PyData.eqv]
  by_cases e : a = b <;> simp [e]
def contF (r : SRes) (k : En → Hm → SRes) : SRes := match r with
  | .ok .next ρ h => k ρ h
  | .ok .cont ρ h => k ρ h
  | .ok .brk ρ h => .ok .next ρ h
  | r => r
section
variable {ρ : En} {h : Hm} (k : En → Hm → SRes)
@[simp] theorem contF_next : contF (.ok .next ρ h) k = k ρ h := rfl
@[simp] theorem contF_cont : contF (.ok .cont ρ h) k = k ρ h := rfl
@[simp] theorem contF_brk : contF (.ok .brk ρ h) k = .ok .next ρ h := rfl
@[simp] theorem contF_ret (d : D) : contF (.ok (.ret d) ρ h) k = .ok (.ret d) ρ h := rfl
@[simp] theorem contF_exc (c : Nat) (fs : List (Nat × D)) : contF (.exc c fs ρ h) k = .exc c fs ρ h := rfl
end
@[simp] theorem loopF_cons {b : D → En → Hm → SRes} {x : D} {xs : List D} {ρ : En} {h : Hm} : loopF none b (x :: xs) ρ h = contF (b x ρ h) fun ρ h => loopF none b xs ρ h := by
  rw [loopF.eq_def]
  dsimp only
  rw [if_pos (show guardOk none h = true from rfl)]
  unfold contF
  rfl
theorem bodyF_one {C : Calls} {i : Nat} {b : List S} {x : D} {ρ : En} {h : Hm} : bodyF C (.one i) b x ρ h = exB C none b (ρ.set i (some x)) h := rfl
@[simp] theorem bodyF_tup {C : Calls} {is : List Nat} {ds : List D} {b : List S} {ρ ρ2 : En} {h : Hm} (e : bindN is ds ρ = some ρ2) : bodyF C (.tup is) b (.tup ds) ρ h = exB C none b ρ2 h := by
  unfold bodyF
  rw [show bindP (.tup is) (.tup ds) ρ = bindN is ds ρ from rfl, e]
theorem mem_insU (n x : Int) : ∀ l, n ∈ insU x l ↔ n = x ∨ n ∈ l
  | [] => by simp [insU]
  | y :: r => by
    unfold insU
    split
    · simp
    · split
      · rename_i e
        subst e
        simp
      · simp [mem_insU n x r]
        constructor
        · rintro (h | h | h) <;> simp [h]
        · rintro (h | h | h) <;> simp [h]
theorem mem_sortU (n : Int) : ∀ l, n ∈ sortU l ↔ n ∈ l
  | [] => by simp [sortU]
  | x :: r => by
    unfold sortU
    rw [mem_insU, mem_sortU n r]
    simp
/-! calls of a table -/
theorem mkC_fuel {B : Base} {fns : Nat → Fn} : ∀ {n : Nat}, (mkC B fns n).fuel = B.fuel
  | 0 => rfl
  | n + 1 => rfl
theorem mkC_mt2 {B : Base} {fns : Nat → Fn} {c m i : Nat} : ∀ {n : Nat}, B.mt c m = some i → i < n → (mkC B fns n).mt c m = some i
  | 0, _, hi => absurd hi (Nat.not_lt_zero _)
  | n + 1, e, hi => by
    show below? (n + 1) (B.mt c m) = some i
    unfold below?
    rw [e]
    dsimp only
    rw [if_pos hi]
theorem x_raise {C : Calls} {ρ : En} {h : Hm} (c : Nat) (hx : C.xf c = []) (ho : C.xok c = true) : exS C none (.raise c []) ρ h = .exc c [] ρ h := by
  show raiseD C c [] ρ h = _
  unfold raiseD
  rw [hx]
  dsimp only
  rw [ho]; rfl
end L2.Mini
set_option Elab.async false
set_option linter.all false
set_option maxRecDepth 100000
set_option maxHeartbeats 1000000
/-! Mini: short words for reading a suite. -/
namespace L2.Mini
open PySem L2
section
variable {h : Hm}
theorem nl0 : newL false [] h = .ok (.lst []) h := newL_pure _ (show 0 ≤ 16777216 by decide)
theorem nl1 (a : D) : newL false [a] h = .ok (.lst [a]) h := newL_pure _ (show 1 ≤ 16777216 by decide)
theorem nl2 (a b : D) : newL false [a, b] h = .ok (.lst [a, b]) h := newL_pure _ (show 2 ≤ 16777216 by decide)
theorem nl3 (a b c : D) : newL false [a, b, c] h = .ok (.lst [a, b, c]) h := newL_pure _ (show 3 ≤ 16777216 by decide)
theorem nl4 (a b c d : D) : newL false [a, b, c, d] h = .ok (.lst [a, b, c, d]) h := newL_pure _ (show 4 ≤ 16777216 by decide)
theorem nl5 (a b c d e : D) : newL false [a, b, c, d, e] h = .ok (.lst [a, b, c, d, e]) h := newL_pure _ (show 5 ≤ 16777216 by decide)
theorem nl6 (a b c d e f : D) : newL false [a, b, c, d, e, f] h = .ok (.lst [a, b, c, d, e, f]) h := newL_pure _ (show 6 ≤ 16777216 by decide)
theorem nl7 (a b c d e f g : D) : newL false [a, b, c, d, e, f, g] h = .ok (.lst [a, b, c, d, e, f, g]) h := newL_pure _ (show 7 ≤ 16777216 by decide)
theorem nl8 (a b c d e f g i : D) : newL false [a, b, c, d, e, f, g, i] h = .ok (.lst [a, b, c, d, e, f, g, i]) h := newL_pure _ (show 8 ≤ 16777216 by decide)
theorem nn0 : newL true [] h = .ok (.ref h.length) (h ++ [.lst []]) := newL_node _ (show 0 ≤ 16777216 by decide)
theorem nn1 (a : D) : newL true [a] h = .ok (.ref h.length) (h ++ [.lst [a]]) := newL_node _ (show 1 ≤ 16777216 by decide)
theorem nn2 (a b : D) : newL true [a, b] h = .ok (.ref h.length) (h ++ [.lst [a, b]]) := newL_node _ (show 2 ≤ 16777216 by decide)
theorem tp0 : tupD [] h = .ok (.tup []) h := tupD_ok _ (show 0 ≤ 16777216 by decide)
theorem tp1 (a : D) : tupD [a] h = .ok (.tup [a]) h := tupD_ok _ (show 1 ≤ 16777216 by decide)
theorem tp2 (a b : D) : tupD [a, b] h = .ok (.tup [a, b]) h := tupD_ok _ (show 2 ≤ 16777216 by decide)
theorem tp3 (a b c : D) : tupD [a, b, c] h = .ok (.tup [a, b, c]) h := tupD_ok _ (show 3 ≤ 16777216 by decide)
theorem tp4 (a b c d : D) : tupD [a, b, c, d] h = .ok (.tup [a, b, c, d]) h := tupD_ok _ (show 4 ≤ 16777216 by decide)
theorem tp5 (a b c d e : D) : tupD [a, b, c, d, e] h = .ok (.tup [a, b, c, d, e]) h := tupD_ok _ (show 5 ≤ 16777216 by decide)
theorem tp6 (a b c d e f : D) : tupD [a, b, c, d, e, f] h = .ok (.tup [a, b, c, d, e, f]) h := tupD_ok _ (show 6 ≤ 16777216 by decide)
theorem il3 (a b c d : D) (xs : List D) : ixD (.lst (a :: b :: c :: d :: xs)) (.int 3) h = .ok d h := ix_lst _ _ _ (atI_of (by decide) rfl)
theorem il4 (a b c d e : D) (xs : List D) : ixD (.lst (a :: b :: c :: d :: e :: xs)) (.int 4) h = .ok e h := ix_lst _ _ _ (atI_of (by decide) rfl)
theorem il5 (a b c d e f : D) (xs : List D) : ixD (.lst (a :: b :: c :: d :: e :: f :: xs)) (.int 5) h = .ok f h := ix_lst _ _ _ (atI_of (by decide) rfl)
theorem it3 (a b c d : D) (xs : List D) : ixD (.tup (a :: b :: c :: d :: xs)) (.int 3) h = .ok d h := ix_tup _ _ _ (atI_of (by decide) rfl)
theorem it4 (a b c d e : D) (xs : List D) : ixD (.tup (a :: b :: c :: d :: e :: xs)) (.int 4) h = .ok e h := ix_tup _ _ _ (atI_of (by decide) rfl)
theorem it5 (a b c d e f : D) (xs : List D) : ixD (.tup (a :: b :: c :: d :: e :: f :: xs)) (.int 5) h = .ok f h := ix_tup _ _ _ (atI_of (by decide) rfl)
theorem pow_lit (mk : Bool) (i j : Int) (c : 0 ≤ j ∧ j ≤ 1000000 ∧ i.natAbs < 2 ^ 64) : opB .pow mk (.int i) (.int j) h = .ok (.int (i ^ j.toNat)) h := if_pos c
theorem p10_5 (mk : Bool) : opB .pow mk (.int 10) (.int 5) h = .ok (.int 100000) h := (pow_lit mk 10 5 (by decide)).trans rfl
theorem p10_6 (mk : Bool) : opB .pow mk (.int 10) (.int 6) h = .ok (.int 1000000) h := (pow_lit mk 10 6 (by decide)).trans rfl
theorem p10_60 (mk : Bool) : opB .pow mk (.int 10) (.int 60) h = .ok (.int 1000000000000000000000000000000000000000000000000000000000000) h := (pow_lit mk 10 60 (by decide)).trans rfl
theorem p2_20 (mk : Bool) : opB .pow mk (.int 2) (.int 20) h = .ok (.int 1048576) h := (pow_lit mk 2 20 (by decide)).trans rfl
theorem cat_tt (mk : Bool) (xs ys : List D) (c : xs.length + ys.length ≤ 16777216) : opB .add mk (.tup xs) (.tup ys) h = .ok (.tup (xs ++ ys)) h := if_pos c
theorem cat_ll (xs ys : List D) (c : xs.length + ys.length ≤ 16777216) : opB .add false (.lst xs) (.lst ys) h = .ok (.lst (xs ++ ys)) h := by
  show newL false (xs ++ ys) h = _
  exact newL_pure _ (by rw [List.length_append]; exact c)
theorem int_int (mk : Bool) (i : Int) : biCall .intOf mk [.int i] h = .ok (.int i) h := rfl
theorem int_bl (mk : Bool) (b : Bool) : biCall .intOf mk [.bl b] h = .ok (.int (if b then 1 else 0)) h := rfl
theorem ir1 (n : Nat) (c : n ≤ 1000000) : iterR1 (.int (n : Int)) h = .ok (rangeD 0 n, none) h := by
  have := iterR1_int (h := h) (n : Int) (by
    unfold small
    rw [decide_eq_true_eq]
    have e : (2 : Int) ^ 62 = 4611686018427387904 := by decide
    omega)
  rwa [Int.toNat_natCast] at this
theorem ir1i (n : Int) (c0 : 0 ≤ n) (c : n ≤ 1000000) : iterR1 (.int n) h = .ok (rangeD 0 n.toNat, none) h := by
  have := ir1 (h := h) n.toNat (by omega)
  rwa [Int.toNat_of_nonneg c0] at this
theorem ir1lit (n : Int) (c : (decide (0 ≤ n) && decide (n ≤ 1000000)) = true) : iterR1 (.int n) h = .ok (rangeD 0 n.toNat, none) h := by
  simp only [Bool.and_eq_true, decide_eq_true_eq] at c
  exact ir1i n c.1 c.2
theorem len_ref {n : Nat} {xs : List D} (mk : Bool) (e : h[n]? = some (.lst xs)) : biCall .len mk [.ref n] h = .ok (.int (xs.length : Int)) h := by
  show lenD (.ref n) h = _
  unfold lenD
  dsimp only
  rw [show getS h (.ref n) = some xs from getL_ref e]
theorem len_last (mk : Bool) (xs : List D) : biCall .len mk [.ref h.length] (h ++ [.lst xs]) = .ok (.int (xs.length : Int)) (h ++ [.lst xs]) := len_ref mk (last_node h (.lst xs))
theorem tup_last (mk : Bool) (xs : List D) : biCall .tupOf mk [.ref h.length] (h ++ [.lst xs]) = .ok (.tup xs) (h ++ [.lst xs]) := tup_ref mk (last_node h (.lst xs))
theorem frz_last (xs : List D) (hp : isPs xs = true) : frzD (.ref h.length) (h ++ [.lst xs]) = .ok (.lst xs) (h ++ [.dead]) := by
  rw [frz_ref (last_node h (.lst xs)) hp, set_node]
theorem app_last (xs : List D) (mk : Bool) (d : D) (c : xs.length < 16777216) : bmCall .append mk (.ref h.length) [d] (h ++ [.lst xs]) = .ok .non (h ++ [.lst (xs ++ [d])]) := append_last h xs mk d c
theorem ix_last (xs : List D) (k : Int) (d : D) (hd : atI xs k = some d) : ixD (.ref h.length) (.int k) (h ++ [.lst xs]) = .ok d (h ++ [.lst xs]) := by
  unfold ixD
  dsimp only
  rw [show getS (h ++ [Node.lst xs]) (.ref h.length) = some xs from getL_ref (last_node h (.lst xs))]
  dsimp only
  rw [hd]
/-- the last one -/
theorem atI_neg1 {xs : List D} {x : D} : atI (xs ++ [x]) (-1) = some x := by
  unfold atI ixN
  simp [show ¬ (0 : Int) ≤ -1 by decide]
  rw [if_pos (by omega)]
  rw [show ((-1 : Int) + ((xs.length : Int) + 1)).toNat = xs.length by omega]
  simp
/-- what comprehensions make where each part's value is only known to be some one -/
theorem comp_ex {β : Type} {ρ : En} {α : Type} {C : Calls} {elt : E} {p : Pt} {it : It} {own : List Nat} {w : Option (Nat × List D)} (P : α → β → Prop) (toD : β → D) (g : α → D) (l : List α) (hi : evI C none it ρ h = .ok (l.map g, w) h) (hg : guardOk w h = true) (hl : l.length ≤ 16777216)
    (H : ∀ x ∈ l, ∃ b, P x b ∧ ∃ ρ2, bindP p (g x) (wipe ρ own) = some ρ2 ∧ evE C none elt ρ2 h = .ok (toD b) h) :
    ∃ bs : List β, bs.length = l.length ∧ (∀ (i : Nat) b, bs[i]? = some b → ∃ x, l[i]? = some x ∧ P x b) ∧ evE C none (.comp false elt p it none own) ρ h = .ok (.lst (bs.map toD)) h := by
  have key : ∀ l : List α, (∀ x ∈ l, ∃ b, P x b ∧ ∃ ρ2, bindP p (g x) (wipe ρ own) = some ρ2 ∧ evE C none elt ρ2 h = .ok (toD b) h) →
      ∃ bs : List β, bs.length = l.length ∧ (∀ (i : Nat) b, bs[i]? = some b → ∃ x, l[i]? = some x ∧ P x b) ∧ loopC w p (fun ρ h => evT C none none ρ h) (fun ρ h => evE C none elt ρ h) (wipe ρ own) (l.map g) h = .ok (bs.map toD) h := by
    intro l
    induction l with
    | nil =>
      intro _
      refine ⟨[], rfl, fun i b e => (by simp at e), ?_⟩
      rw [List.map_nil]
      unfold loopC
      rw [if_pos hg]
      rfl
    | cons x l ih =>
      intro H
      obtain ⟨b, pb, ρ2, e1, e2⟩ := H x (List.mem_cons_self ..)
      obtain ⟨bs, l1, l2, l3⟩ := ih fun y hy => H y (List.mem_cons_of_mem _ hy)
      refine ⟨b :: bs, by rw [List.length_cons, l1, List.length_cons], fun i c e => ?_, ?_⟩
      · cases i with
        | zero =>
          cases e
          exact ⟨x, rfl, pb⟩
        | succ i => exact l2 i c (by simpa using e)
      · rw [List.map_cons]
        unfold loopC
        rw [if_pos hg, e1]
        dsimp only
        rw [t_none, bind_ok, if_pos rfl, e2, bind_ok, l3, bind_ok]
        rfl
  obtain ⟨bs, l1, l2, l3⟩ := key l H
  refine ⟨bs, l1, l2, ?_⟩
  rw [e_comp, hi, bind_ok]
  dsimp only
  rw [if_pos (by rw [List.length_map]; exact hl), l3, quiet_ok, bind_ok]
  exact newL_pure _ (by rw [List.length_map, l1]; exact hl)
end
theorem seqT {C : Calls} {cur : Cur} {s : S} {r : List S} {ρ ρ1 : En} {h h1 : Hm} {X : SRes} (e : exS C cur s ρ h = .ok .next ρ1 h1) (k : exB C cur r ρ1 h1 = X) : exB C cur (s :: r) ρ h = X := (seq_step e).trans k
theorem seqE {C : Calls} {cur : Cur} {s : S} {r : List S} {ρ ρ1 : En} {h h1 : Hm} {X : Res D} (e : exS C cur s ρ h = .ok .next ρ1 h1) (k : endR (exB C cur r ρ1 h1) = X) : endR (exB C cur (s :: r) ρ h) = X := (congrArg endR (seq_step e)).trans k
theorem retE {C : Calls} {cur : Cur} {s : S} {r : List S} {ρ ρ1 : En} {h h1 : Hm} {d : D} (e : exS C cur s ρ h = .ok (.ret d) ρ1 h1) : endR (exB C cur (s :: r) ρ h) = .ok d h1 := congrArg endR (seq_ret e)
theorem excE {C : Calls} {cur : Cur} {s : S} {r : List S} {ρ ρ1 : En} {h h1 : Hm} {c : Nat} {fs : List (Nat × D)} (e : exS C cur s ρ h = .exc c fs ρ1 h1) : endR (exB C cur (s :: r) ρ h) = .exc c fs h1 := congrArg endR (seq_exc e)
theorem fin0 {h : Hm} {r : SRes} {d : D} (e : endR r = .ok d h) : gcD h (endR r) = .ok d h := by rw [e]; exact gc_same d
theorem finL {h h1 : Hm} {r : SRes} {d : D} (l : h1.length = h.length) (e : endR r = .ok d h1) : gcD h (endR r) = .ok d h1 := by rw [e]; exact gc_len h d l
theorem finG {h g : Hm} {r : SRes} {d : D} (hp : isP d = true) (e : endR r = .ok d (h ++ g)) : gcD h (endR r) = .ok d h := by rw [e]; exact gc_drop g d hp
theorem finX {h g : Hm} {r : SRes} {c : Nat} {fs : List (Nat × D)} (hp : isPF fs = true) (e : endR r = .exc c fs (h ++ g)) : gcD h (endR r) = .exc c fs h := by
  rw [e]
  unfold gcD
  dsimp only
  rw [if_pos ⟨hp, .inl (List.take_left' rfl)⟩, List.take_left' rfl]
theorem finX0 {h : Hm} {r : SRes} {c : Nat} {fs : List (Nat × D)} (hp : isPF fs = true) (e : endR r = .exc c fs h) : gcD h (endR r) = .exc c fs h := finX (g := []) hp (by rw [List.append_nil]; exact e)
theorem for_of {C : Calls} {p : Pt} {it : It} {b : List S} {ρ ρ1 : En} {h h1 : Hm} {xs : List D} {g : Option (Nat × List D)} (e : evI C none it ρ h = .ok (xs, g) h) (k : loopF g (bodyF C p b) xs ρ h = .ok .next ρ1 h1) : exS C none (.forr p it b) ρ h = .ok .next ρ1 h1 := by
  rw [x_forr, e]
  exact k
theorem ite_of {C : Calls} {cur : Cur} {c : E} {a b : List S} {ρ : En} {h h1 : Hm} {X : SRes} (t : Bool) (e : (evE C cur c ρ h).bind asB = .ok t h1) (k : (if t then exB C cur a ρ h1 else exB C cur b ρ h1) = X) : exS C cur (.ite c a b) ρ h = X := by
  rw [x_ite, e]
  exact k
/-- the rules of straight code, in one -/
theorem Rules {h : Hm} : (∀ mk i j, 0 < j → opB .mod mk (.int i) (.int j) h = .ok (.int (i % j)) h) ∧ (∀ mk i j, 0 < j → j < 18446744073709551616 → opB .fdiv mk (.int i) (.int j) h = .ok (.int (i / j)) h) ∧
    (∀ mk i j, -18446744073709551616 < i → i < 18446744073709551616 → -18446744073709551616 < j → j < 18446744073709551616 → opB .mul mk (.int i) (.int j) h = .ok (.int (i * j)) h) ∧
    (∀ mk, opB .pow mk (.int 10) (.int 5) h = .ok (.int 100000) h) ∧ (∀ mk, opB .pow mk (.int 10) (.int 6) h = .ok (.int 1000000) h) ∧
    (∀ mk, opB .pow mk (.int 10) (.int 60) h = .ok (.int 1000000000000000000000000000000000000000000000000000000000000) h) ∧ (∀ mk, opB .pow mk (.int 2) (.int 20) h = .ok (.int 1048576) h) ∧
    (newL false [] h = .ok (.lst []) h) ∧ (∀ a, newL false [a] h = .ok (.lst [a]) h) ∧ (∀ a b, newL false [a, b] h = .ok (.lst [a, b]) h) ∧ (∀ a b c, newL false [a, b, c] h = .ok (.lst [a, b, c]) h) ∧
    (∀ a b c d, newL false [a, b, c, d] h = .ok (.lst [a, b, c, d]) h) ∧ (∀ a b c d e, newL false [a, b, c, d, e] h = .ok (.lst [a, b, c, d, e]) h) ∧ (∀ a b c d e f, newL false [a, b, c, d, e, f] h = .ok (.lst [a, b, c, d, e, f]) h) ∧
    (∀ a b c d e f g, newL false [a, b, c, d, e, f, g] h = .ok (.lst [a, b, c, d, e, f, g]) h) ∧ (∀ a b c d e f g i, newL false [a, b, c, d, e, f, g, i] h = .ok (.lst [a, b, c, d, e, f, g, i]) h) ∧
    (newL true [] h = .ok (.ref h.length) (h ++ [.lst []])) ∧ (∀ a, newL true [a] h = .ok (.ref h.length) (h ++ [.lst [a]])) ∧ (∀ a b, newL true [a, b] h = .ok (.ref h.length) (h ++ [.lst [a, b]])) ∧
    (tupD [] h = .ok (.tup []) h) ∧ (∀ a, tupD [a] h = .ok (.tup [a]) h) ∧ (∀ a b, tupD [a, b] h = .ok (.tup [a, b]) h) ∧ (∀ a b c, tupD [a, b, c] h = .ok (.tup [a, b, c]) h) ∧
    (∀ a b c d, tupD [a, b, c, d] h = .ok (.tup [a, b, c, d]) h) ∧ (∀ a b c d e, tupD [a, b, c, d, e] h = .ok (.tup [a, b, c, d, e]) h) ∧ (∀ a b c d e f, tupD [a, b, c, d, e, f] h = .ok (.tup [a, b, c, d, e, f]) h) ∧
    (∀ a b c d xs, ixD (.lst (a :: b :: c :: d :: xs)) (.int 3) h = .ok d h) ∧ (∀ a b c d e xs, ixD (.lst (a :: b :: c :: d :: e :: xs)) (.int 4) h = .ok e h) ∧ (∀ a b c d e f xs, ixD (.lst (a :: b :: c :: d :: e :: f :: xs)) (.int 5) h = .ok f h) ∧
    (∀ a b c d xs, ixD (.tup (a :: b :: c :: d :: xs)) (.int 3) h = .ok d h) ∧ (∀ a b c d e xs, ixD (.tup (a :: b :: c :: d :: e :: xs)) (.int 4) h = .ok e h) ∧ (∀ a b c d e f xs, ixD (.tup (a :: b :: c :: d :: e :: f :: xs)) (.int 5) h = .ok f h) ∧
    (∀ mk i, biCall .intOf mk [.int i] h = .ok (.int i) h) ∧ (∀ mk b, biCall .intOf mk [.bl b] h = .ok (.int (if b then 1 else 0)) h) :=
  ⟨opB_mod, opB_fdiv64, opB_mul64, p10_5, p10_6, p10_60, p2_20, nl0, nl1, nl2, nl3, nl4, nl5, nl6, nl7, nl8, nn0, nn1, nn2, tp0, tp1, tp2, tp3, tp4, tp5, tp6, il3, il4, il5, it3, it4, it5, int_int, int_bl⟩
end L2.Mini
set_option Elab.async false
set_option linter.all false
set_option maxRecDepth 100000

namespace Law13
open PySem L2 L2.Mini
def top (i : Nat) : Stmt := PySem.Challenge.pw_traylate_k13_programs_shown.main.body.getD i (.Pass ⟨0, 0, 0, 0⟩)
def w0_0 : List S := [.set (.one 4) (.bin .add false (.bin .add false (.var 4) (.con (.str " "))) (.bi .strOf false [(.var 5)]))]
def w0_1 : List S := [.set (.one 4) (.idx (.var 3) (.con (.int (0)))), .forr (.one 5) (.seq (.cut false (.var 3) (some (.con (.int (1)))) none)) w0_0, .expr (.bm .append false (.var 1) [(.var 4)])]
def w0_2 : List S := [.expr (.bm .append false (.var 1) [(.con (.str "clerk"))]), .forr (.one 3) (.seq (.var 2)) w0_1]
def b0 : List S := [
    .set (.one 1) (.lst true []),
    .forr (.one 2) (.seq (.var 0)) w0_2,
    .ret (.bm .join false (.con (.str "
")) [(.var 1)])]
def d0 : DefD := { name := "_law_shown", qual := "_law_shown", st := (top 34), N := ["_law_program", "_law_rows", "_law_part", "_law_told", "_law_row", "_law_number"], ps := ["_law_program"], fn := ⟨1, 6, b0⟩ }
def b1 : List S := [
    .ite (.cmp .lt (.var 1) (.bi .len false [(.var 0)])) [.ret (.idx (.var 0) (.var 1))] [],
    .ret (.con (.int (0)))]
def d1 : DefD := { name := "_law_cell_at", qual := "_law_cell_at", st := (top 31), N := ["_law_script", "_law_k"], ps := ["_law_script", "_law_k"], fn := ⟨2, 2, b1⟩ }
def b2 : List S := [
    .setA (.var 0) 0 (.var 1),
    .setA (.var 0) 1 (.var 2)]
def d2 : DefD := { name := "__init__", qual := "NoProgram.__init__", st := (inClass (top 5) 0), N := ["self", "clerk", "place"], ps := ["self", "clerk", "place"], fn := ⟨3, 3, b2⟩ }
def b3 : List S := [
    .ret (.bool true [(.isa (.var 0) .int), (.not (.isa (.var 0) .bool)), (.chain .le .lt (.con (.int (0))) (.var 0) (.var 1))])]
def d3 : DefD := { name := "is_number", qual := "is_number", st := (top 9), N := ["thing", "end"], ps := ["thing", "end"], fn := ⟨2, 2, b3⟩ }
def q4_0 : E := (.comp false (.call 3 [(.idx (.var 0) (.bin .add false (.var 2) (.con (.int (1))))), (.idx (.var 1) (.var 2))] []) (.one 2) (.range1 (.bi .len false [(.var 1)])) none [2])
def b4 : List S := [
    .ret (.bool true [(.cmp .eq (.bi .len false [(.var 0)]) (.bin .add false (.bi .len false [(.var 1)]) (.con (.int (1))))), (.bi .all false [q4_0])])]
def d4 : DefD := { name := "fits", qual := "fits", st := (top 18), N := ["told", "ends", "k"], ps := ["told", "ends"], fn := ⟨2, 3, b4⟩ }
def b5 : List S := [
    .setA (.var 0) 2 (.var 1)]
def d5 : DefD := { name := "__init__", qual := "Step.__init__", st := (inClass (top 10) 0), N := ["self", "told"], ps := ["self", "told"], fn := ⟨2, 2, b5⟩ }
def b6 : List S := [
    .ite (.bool false [(.not (.isa (.var 0) .tuple)), (.cmp .eq (.var 0) (.tup []))]) [.raise 1 []] [],
    .set (.one 1) (.idx (.var 0) (.con (.int (0)))),
    .ite (.bool true [(.cmp .eq (.var 1) (.con (.str "put"))), (.call 4 [(.var 0), (.lst false [(.con (.int (4))), (.glob 0 (1000000000000000000000000000000000000000000000000000000000000))])] [])]) [.ret (.frz (.make 5 [(.var 0)] []))] [],
    .ite (.bool true [(.cmp .eq (.var 1) (.con (.str "add"))), (.call 4 [(.var 0), (.lst false [(.con (.int (4))), (.con (.int (4)))])] [])]) [.ret (.frz (.make 6 [(.var 0)] []))] [],
    .ite (.bool true [(.cmp .eq (.var 1) (.con (.str "set"))), (.call 4 [(.var 0), (.lst false [(.con (.int (12))), (.con (.int (4)))])] [])]) [.ret (.frz (.make 7 [(.var 0)] []))] [],
    .ite (.bool true [(.cmp .eq (.var 1) (.con (.str "look"))), (.call 4 [(.var 0), (.lst false [(.con (.int (4))), (.con (.int (12)))])] [])]) [.ret (.frz (.make 8 [(.var 0)] []))] [],
    .ite (.bool true [(.cmp .eq (.var 1) (.con (.str "swap"))), (.call 4 [(.var 0), (.lst false [(.con (.int (4))), (.con (.int (12)))])] [])]) [.ret (.frz (.make 9 [(.var 0)] []))] [],
    .ite (.bool true [(.cmp .eq (.var 1) (.con (.str "clear"))), (.call 4 [(.var 0), (.lst false [])] [])]) [.ret (.frz (.make 10 [(.var 0)] []))] [],
    .ite (.bool true [(.cmp .eq (.var 1) (.con (.str "skip"))), (.call 4 [(.var 0), (.lst false [(.con (.int (4))), (.con (.int (121)))])] [])]) [.ret (.frz (.make 11 [(.var 0)] []))] [],
    .raise 1 []]
def d6 : DefD := { name := "step_of", qual := "step_of", st := (top 19), N := ["told", "word"], ps := ["told"], fn := ⟨1, 2, b6⟩ }
def b7 : List S := [
    .ret (.lst false [(.bin .add false (.var 1) (.con (.int (1))))])]
def d7 : DefD := { name := "nexts", qual := "Step.nexts", st := (inClass (top 10) 2), N := ["self", "place"], ps := ["self", "place"], fn := ⟨2, 2, b7⟩ }
def b8 : List S := [
    .ret (.sset false (.lst false [(.bin .add false (.var 1) (.con (.int (1)))), (.idx (.attr (.var 0) 2) (.con (.int (2))))]))]
def d8 : DefD := { name := "nexts", qual := "Skip.nexts", st := (inClass (top 17) 0), N := ["self", "place"], ps := ["self", "place"], fn := ⟨2, 2, b8⟩ }
def b9 : List S := [
    .try_ [.set (.one 2) (.call 6 [(.var 0)] [])] [.mk [1] none [.ret (.con (.bl false))]],
    .ret (.cmp .le (.bi .max1 false [(.meth (.var 2) 3 [(.con (.int (0)))])]) (.bi .max2 false [(.var 1), (.con (.int (1)))]))]
def d9 : DefD := { name := "is_good", qual := "is_good", st := (top 22), N := ["told", "length", "step"], ps := ["told", "length"], fn := ⟨2, 3, b9⟩ }
def w10_0 : List S := [.ite (.not (.isa (.var 1) .tuple)) [.raise 2 []] []]
def w10_1 : List S := [.ite (.bool false [(.cmp .ge (.var 3) (.glob 1 (120))), (.not (.call 9 [(.var 4), (.bi .len false [(.var 1)])] []))]) [.raise 3 [(.var 2), (.var 3)]] []]
def w10_2 : List S := [.forr (.tup [3, 4]) (.enum (.var 1)) w10_1]
def b10 : List S := [
    .ite (.bool false [(.not (.isa (.var 0) .tuple)), (.not (.chain .le .le (.con (.int (1))) (.bi .len false [(.var 0)]) (.con (.int (4)))))]) [.raise 2 []] [],
    .forr (.one 1) (.seq (.var 0)) w10_0,
    .forr (.tup [2, 1]) (.enum (.var 0)) w10_2]
def d10 : DefD := { name := "look_over", qual := "look_over", st := (top 23), N := ["program", "part", "clerk", "place", "told"], ps := ["program"], fn := ⟨1, 5, b10⟩ }
def q11_0 : E := (.comp false (.bi .strOf false [(.var 1)]) (.one 1) (.seq (.var 0)) none [1])
def b11 : List S := [
    .ret (.bm .join false (.con (.str " ")) [q11_0])]
def d11 : DefD := { name := "step_text", qual := "step_text", st := (top 26), N := ["told", "part"], ps := ["told"], fn := ⟨1, 2, b11⟩ }
def q12_0 : E := (.comp false (.call 11 [(.var 3)] []) (.one 3) (.seq (.var 2)) none [3])
def w12_0 : List S := [.expr (.bm .append false (.var 1) [(.con (.str "clerk"))]), .set (.one 1) (.bin .add true (.var 1) q12_0)]
def b12 : List S := [
    .set (.one 1) (.lst true []),
    .forr (.one 2) (.seq (.var 0)) w12_0,
    .ret (.bm .join false (.con (.str "
")) [(.var 1)])]
def d12 : DefD := { name := "program_text", qual := "program_text", st := (top 27), N := ["program", "rows", "part", "told"], ps := ["program"], fn := ⟨1, 4, b12⟩ }
def q13_0 : E := (.comp false (.var 1) (.one 1) (.chars (.var 0)) (some (.cmp .notin (.var 1) (.globT 2 "0123456789"))) [1])
def b13 : List S := [
    .ite (.bool false [(.not (.chain .le .le (.con (.int (1))) (.bi .len false [(.var 0)]) (.con (.int (60))))), (.cmp .ne q13_0 (.lst false []))]) [.raise 4 []] [],
    .ret (.bi .intOf false [(.var 0)])]
def d13 : DefD := { name := "number_of", qual := "number_of", st := (top 28), N := ["word", "sign"], ps := ["word"], fn := ⟨1, 2, b13⟩ }
def q14_0 : E := (.comp false (.call 13 [(.var 4)] []) (.one 4) (.seq (.cut false (.var 3) (some (.con (.int (1)))) none)) none [4])
def w14_0 : List S := [.set (.one 3) (.bm .split false (.var 2) [(.con (.str " "))]), .ite (.cmp .eq (.var 2) (.con (.str "clerk"))) [.expr (.bm .append false (.var 1) [(.lst true [])])] [.ite (.cmp .eq (.var 1) (.lst false [])) [.raise 4 []] [.expr (.bm .append false (.idx (.var 1) (.neg (.con (.int (1))))) [(.bi .tupOf false [(.bin .add false (.lst false [(.idx (.var 3) (.con (.int (0))))]) q14_0)])])]]]
def q14_1 : E := (.comp false (.bi .tupOf false [(.var 6)]) (.one 6) (.seq (.var 1)) none [6])
def b14 : List S := [
    .ite (.not (.isa (.var 0) .str)) [.raise 4 []] [],
    .set (.one 1) (.lst true []),
    .forr (.one 2) (.seq (.bm .split false (.var 0) [(.con (.str "
"))])) w14_0,
    .set (.one 5) (.bi .tupOf false [q14_1]),
    .tryN [.expr (.call 10 [(.var 5)] [])],
    .ite (.cmp .ne (.call 12 [(.var 5)] []) (.var 0)) [.raise 4 []] [],
    .ret (.var 5)]
def d14 : DefD := { name := "read_program", qual := "read_program", st := (top 29), N := ["text", "parts", "row", "words", "word", "program", "part"], ps := ["text"], fn := ⟨1, 7, b14⟩ }
def q15_0 : E := (.comp false (.var 3) (.one 3) (.seq (.cut false (.var 2) (some (.con (.int (1)))) none)) (some (.isa (.var 3) .bool)) [3])
def w15_0 : List S := [.ite (.bool false [(.not (.isa (.var 2) .tuple)), (.cmp .ne q15_0 (.lst false []))]) [.ret (.con (.bl false))] []]
def w15_1 : List S := [.ite (.not (.isa (.var 1) .tuple)) [.ret (.con (.bl false))] [], .forr (.one 2) (.seq (.var 1)) w15_0]
def b15 : List S := [
    .ite (.not (.isa (.var 0) .tuple)) [.ret (.con (.bl false))] [],
    .forr (.one 1) (.seq (.var 0)) w15_1,
    .ret (.con (.bl true))]
def d15 : DefD := { name := "_law_plain", qual := "_law_plain", st := (top 35), N := ["_law_program", "_law_part", "_law_told", "_law_number"], ps := ["_law_program"], fn := ⟨1, 4, b15⟩ }
def b16 : List S := [
    .set (.one 3) (.bin .mod false (.bin .fdiv false (.var 0) (.con (.int (7)))) (.con (.int (4)))),
    .set (.one 4) (.bin .mod false (.bin .fdiv false (.var 0) (.con (.int (28)))) (.con (.int (12)))),
    .set (.one 5) (.idx (.lst false [(.bin .mod false (.var 1) (.bin .pow false (.con (.int (10))) (.con (.int (60))))), (.bin .mod false (.bin .fdiv false (.var 0) (.con (.int (28)))) (.con (.int (11))))]) (.bin .mod false (.bin .fdiv false (.var 0) (.con (.int (300)))) (.con (.int (2))))),
    .set (.one 6) (.lst false [(.tup [(.con (.str "put")), (.var 3), (.var 5)]), (.tup [(.con (.str "add")), (.var 3), (.bin .mod false (.bin .fdiv false (.var 0) (.con (.int (28)))) (.con (.int (4))))]), (.tup [(.con (.str "set")), (.var 4), (.var 3)]), (.tup [(.con (.str "clear"))])]),
    .set (.one 6) (.bin .add false (.var 6) (.lst false [(.tup [(.con (.str "look")), (.var 3), (.var 4)]), (.tup [(.con (.str "swap")), (.var 3), (.var 4)]), (.tup [(.con (.str "skip")), (.var 3), (.bin .mod false (.bin .fdiv false (.var 0) (.con (.int (28)))) (.bin .add false (.var 2) (.con (.int (1)))))])])),
    .ret (.idx (.var 6) (.bin .mod false (.var 0) (.con (.int (7)))))]
def d16 : DefD := { name := "_law_step", qual := "_law_step", st := (top 33), N := ["_law_draw", "_law_cell", "_law_size", "_law_box", "_law_name", "_law_number", "_law_some"], ps := ["_law_draw", "_law_cell", "_law_size"], fn := ⟨3, 7, b16⟩ }
def b17 : List S := [
    .set (.one 2) (.bin .mod false (.bin .mul false (.bin .add false (.bin .add false (.bin .mod false (.var 0) (.con (.int (2147483647)))) (.bin .mul false (.con (.int (7919))) (.var 1))) (.con (.int (1)))) (.con (.int (48271)))) (.con (.int (2147483647)))),
    .ret (.bin .mod false (.bin .mul false (.var 2) (.bin .add false (.bin .fdiv false (.var 2) (.con (.int (1009)))) (.con (.int (69621))))) (.con (.int (2147483647))))]
def d17 : DefD := { name := "_law_mixed", qual := "_law_mixed", st := (top 32), N := ["_law_cell", "_law_k", "_law_number"], ps := ["_law_cell", "_law_k"], fn := ⟨2, 3, b17⟩ }
def q18_0 : E := (.comp false (.call 16 [(.call 17 [(.var 3), (.var 5)] []), (.var 3), (.var 4)] []) (.one 5) (.range1 (.var 4)) none [5])
def w18_0 : List S := [.set (.one 3) (.call 1 [(.var 0), (.bin .add false (.con (.int (1))) (.var 2))] []), .set (.one 4) (.bin .mod false (.var 3) (.con (.int (21)))), .ite (.cmp .eq (.bin .mod false (.bin .fdiv false (.call 1 [(.var 0), (.con (.int (0)))] []) (.con (.int (4)))) (.con (.int (16)))) (.con (.int (7)))) [.set (.one 4) (.bin .add false (.con (.int (100))) (.bin .mod false (.var 3) (.con (.int (21)))))] [], .expr (.bm .append false (.var 1) [(.bi .tupOf false [q18_0])])]
def w18_1 : List S := [.ite (.cmp .ne (.call 12 [(.var 6)] []) (.var 7)) [.ret (.con (.bl false))] [], .set (.one 9) (.call 14 [(.var 7)] []), .ite (.bool false [(.cmp .ne (.var 9) (.var 6)), (.not (.call 15 [(.var 9)] []))]) [.ret (.con (.bl false))] []]
def b18 : List S := [
    .set (.one 1) (.lst true []),
    .forr (.one 2) (.range1 (.bin .add false (.con (.int (1))) (.bin .mod false (.call 1 [(.var 0), (.con (.int (0)))] []) (.con (.int (4)))))) w18_0,
    .set (.one 6) (.bi .tupOf false [(.var 1)]),
    .set (.one 7) (.call 0 [(.var 6)] []),
    .forr (.one 8) (.range1 (.con (.int (2)))) w18_1,
    .ret (.cmp .eq (.call 12 [(.call 14 [(.var 7)] [])] []) (.var 7))]
def d18 : DefD := { name := "law", qual := "law", st := (top 36), N := ["_law_script", "_law_parts", "_law_clerk", "_law_cell", "_law_size", "_law_k", "_law_program", "_law_due", "_law_again", "_law_got"], ps := ["_law_script"], fn := ⟨1, 10, b18⟩ }
def src : Src where
  defs := [d0, d1, d2, d3, d4, d5, d6, d7, d8, d9, d10, d11, d12, d13, d14, d15, d16, d17, d18]
  names := [("clerk" : Str), ("place" : Str), ("parts" : Str), ("nexts" : Str)]
  classes := [("TrayError" : Str), ("NoStep" : Str), ("NoClerks" : Str), ("NoProgram" : Str), ("NoText" : Str), ("Put" : Str), ("Add" : Str), ("Set" : Str), ("Look" : Str), ("Swap" : Str), ("Clear" : Str), ("Skip" : Str)]
  inis := [(5, 5), (6, 5), (7, 5), (8, 5), (9, 5), (10, 5), (11, 5)]
  mts := [((5, 3), 7), ((6, 3), 7), ((7, 3), 7), ((8, 3), 7), ((9, 3), 7), ((10, 3), 7), ((11, 3), 8)]
  fls := [(5, 2), (6, 2), (7, 2), (8, 2), (9, 2), (10, 2), (11, 2)]
  subs := [(0, 0), (1, 1), (1, 0), (2, 2), (2, 0), (3, 3), (3, 0), (4, 4), (4, 0), (5, 5), (6, 6), (7, 7), (8, 8), (9, 9), (10, 10), (11, 11)]
  xfs := [(3, [0, 1])]
  xis := [(3, 2)]
  xcs := [1, 2, 3, 4]
  tops := [0, 1, 3, 4, 6, 9, 10, 11, 12, 13, 14, 15, 16, 17, 18]
  nums := [("TOP", .int 1000000000000000000000000000000000000000000000000000000000000), ("LONGEST", .int 120), ("FIGURES", .str "0123456789")]
  fuel := 10000
theorem nm_ok : nmC src.names = true := by decide +kernel
set_option maxHeartbeats 0 in
theorem chk_ok : chkL src.prg 0 src.defs = true := by decide +kernel
set_option maxHeartbeats 1000000
/-- the i-th def -/
abbrev F (i : Nat) : List D → Hm → Res D := runF (src.prg.C i) (src.prg.fns i)
theorem callF {n i : Nat} (h : i < n) : (src.prg.C n).fn i = F i := mkC_fn h
@[simp] theorem dfF {n i : Nat} : (src.prg.C n).df i [] = true := mkC_df
theorem set_last (h : Hm) (x y : Node) : (h ++ [x]).set h.length y = h ++ [y] := by
  simp [List.set_append]
theorem frz_make (h : Hm) (c : Nat) (fs : List (Nat × D)) (hp : isPF fs = true) : frzD (.ref h.length) (h ++ [.ins c fs]) = .ok (.ins c fs) (h ++ [.dead]) := by
  unfold frzD
  simp [hp, set_last]
mutual
theorem okD_isP : ∀ {k : Nat} {d : D}, okD k d = true → isP d = true
  | _, .non, _ => rfl
  | _, .bl _, _ => rfl
  | _, .int _, _ => rfl
  | _, .str _, _ => rfl
  | k, .tup xs, h => by
    simp only [okD, Bool.and_eq_true] at h
    exact okDs_isPs h.2
  | k, .lst xs, h => by
    simp only [okD, Bool.and_eq_true] at h
    exact okDs_isPs h.2
  | k, .scr xs, h => by
    simp only [okD, Bool.and_eq_true] at h
    exact okDs_isPs h.2
  | _, .ref _, h => by simp [okD] at h
  | _, .ins _ _, h => by simp [okD] at h
theorem okDs_isPs : ∀ {k : Nat} {xs : List D}, okDs k xs = true → isPs xs = true
  | _, [], _ => rfl
  | k, x :: xs, h => by
    simp only [okDs, Bool.and_eq_true] at h
    show (isP x && isPs xs) = true
    rw [okD_isP h.1, okDs_isPs h.2]; rfl
end
/-- anything == a text -/
theorem eq_str_any {h : Hm} {w : D} (ok : okD 60 w = true) (s : Str) (hs : PyData.canLay0 (.str s) = true) : opC .eq w (.str s) h = .ok (.bl (decide (w = .str s))) h := by
  have h2 : okD 60 (.str s) = true := by simpa [okD] using hs
  rw [opC_eq_of (view_ok ok) (view_ok h2) (okD_shaped ok (by decide)) (okD_shaped h2 (by decide))]
  cases w <;> simp [pd, PyData.eqv]
  rename_i x
  by_cases e : x = s <;> simp [e]
theorem ne_str_any {h : Hm} {w : D} (ok : okD 60 w = true) (s : Str) (hs : PyData.canLay0 (.str s) = true) : opC .ne w (.str s) h = .ok (.bl (!decide (w = .str s))) h := by
  have h2 : okD 60 (.str s) = true := by simpa [okD] using hs
  rw [opC_ne_of (view_ok ok) (view_ok h2) (okD_shaped ok (by decide)) (okD_shaped h2 (by decide))]
  cases w <;> simp [pd, PyData.eqv]
  rename_i x
  by_cases e : x = s <;> simp [e]
/-- a list is not a tuple .. -/
theorem eq_tup_nil {h : Hm} {w : D} {ps : List D} (ok : okD 60 (.tup (w :: ps)) = true) : opC .eq (.tup (w :: ps)) (.tup []) h = .ok (.bl false) h := by
  rw [opC_eq_of (view_ok ok) (view_ok (k := 60) (d := .tup []) rfl) (okD_shaped ok (by decide)) rfl]
  rfl

/-! each def at its call -/
theorem u0 (a0 : D) (h : Hm) : F 0 [a0] h = gcD h (endR (exB (src.prg.C 0) none b0 [some a0, none, none, none, none, none] h)) := by
  unfold F runF
  exact if_pos rfl
theorem u1 (a0 a1 : D) (h : Hm) : F 1 [a0, a1] h = gcD h (endR (exB (src.prg.C 1) none b1 [some a0, some a1] h)) := by
  unfold F runF
  exact if_pos rfl
theorem u2 (a0 a1 a2 : D) (h : Hm) : F 2 [a0, a1, a2] h = gcD h (endR (exB (src.prg.C 2) none b2 [some a0, some a1, some a2] h)) := by
  unfold F runF
  exact if_pos rfl
theorem u3 (a0 a1 : D) (h : Hm) : F 3 [a0, a1] h = gcD h (endR (exB (src.prg.C 3) none b3 [some a0, some a1] h)) := by
  unfold F runF
  exact if_pos rfl
theorem u4 (a0 a1 : D) (h : Hm) : F 4 [a0, a1] h = gcD h (endR (exB (src.prg.C 4) none b4 [some a0, some a1, none] h)) := by
  unfold F runF
  exact if_pos rfl
theorem u5 (a0 a1 : D) (h : Hm) : F 5 [a0, a1] h = gcD h (endR (exB (src.prg.C 5) none b5 [some a0, some a1] h)) := by
  unfold F runF
  exact if_pos rfl
theorem u6 (a0 : D) (h : Hm) : F 6 [a0] h = gcD h (endR (exB (src.prg.C 6) none b6 [some a0, none] h)) := by
  unfold F runF
  exact if_pos rfl
theorem u7 (a0 a1 : D) (h : Hm) : F 7 [a0, a1] h = gcD h (endR (exB (src.prg.C 7) none b7 [some a0, some a1] h)) := by
  unfold F runF
  exact if_pos rfl
theorem u8 (a0 a1 : D) (h : Hm) : F 8 [a0, a1] h = gcD h (endR (exB (src.prg.C 8) none b8 [some a0, some a1] h)) := by
  unfold F runF
  exact if_pos rfl
theorem u9 (a0 a1 : D) (h : Hm) : F 9 [a0, a1] h = gcD h (endR (exB (src.prg.C 9) none b9 [some a0, some a1, none] h)) := by
  unfold F runF
  exact if_pos rfl
theorem u10 (a0 : D) (h : Hm) : F 10 [a0] h = gcD h (endR (exB (src.prg.C 10) none b10 [some a0, none, none, none, none] h)) := by
  unfold F runF
  exact if_pos rfl
theorem u11 (a0 : D) (h : Hm) : F 11 [a0] h = gcD h (endR (exB (src.prg.C 11) none b11 [some a0, none] h)) := by
  unfold F runF
  exact if_pos rfl
theorem u12 (a0 : D) (h : Hm) : F 12 [a0] h = gcD h (endR (exB (src.prg.C 12) none b12 [some a0, none, none, none] h)) := by
  unfold F runF
  exact if_pos rfl
theorem u13 (a0 : D) (h : Hm) : F 13 [a0] h = gcD h (endR (exB (src.prg.C 13) none b13 [some a0, none] h)) := by
  unfold F runF
  exact if_pos rfl
theorem u14 (a0 : D) (h : Hm) : F 14 [a0] h = gcD h (endR (exB (src.prg.C 14) none b14 [some a0, none, none, none, none, none, none] h)) := by
  unfold F runF
  exact if_pos rfl
theorem u15 (a0 : D) (h : Hm) : F 15 [a0] h = gcD h (endR (exB (src.prg.C 15) none b15 [some a0, none, none, none] h)) := by
  unfold F runF
  exact if_pos rfl
theorem u16 (a0 a1 a2 : D) (h : Hm) : F 16 [a0, a1, a2] h = gcD h (endR (exB (src.prg.C 16) none b16 [some a0, some a1, some a2, none, none, none, none] h)) := by
  unfold F runF
  exact if_pos rfl
theorem u17 (a0 a1 : D) (h : Hm) : F 17 [a0, a1] h = gcD h (endR (exB (src.prg.C 17) none b17 [some a0, some a1, none] h)) := by
  unfold F runF
  exact if_pos rfl
theorem u18 (a0 : D) (h : Hm) : F 18 [a0] h = gcD h (endR (exB (src.prg.C 18) none b18 [some a0, none, none, none, none, none, none, none, none, none] h)) := by
  unfold F runF
  exact if_pos rfl
def cellAt (ns : List Int) (k : Nat) : Int := ns.getD k 0
theorem cell_ok (ns : List Int) (k : Nat) (h : Hm) : F 1 [.scr (ns.map D.int), .int k] h = .ok (.int (cellAt ns k)) h := by
  unfold F runF
  rw [show src.prg.fns 1 = ⟨2, 2, b1⟩ from rfl]
  simp only [b1]
  simp
  by_cases hk : k < ns.length
  · simp [hk]
    rw [ix_scr _ _ (.int ns[k]) (by rw [atI_lt (by simpa using hk)]; simp)]
    simp [cellAt, hk]
  · simp [hk, cellAt, List.getElem?_eq_none (Nat.le_of_not_lt hk)]
theorem cell_okI (ns : List Int) (k : Int) (h0 : 0 ≤ k) (h : Hm) : F 1 [.scr (ns.map D.int), .int k] h = .ok (.int (cellAt ns k.toNat)) h := by
  have := cell_ok ns k.toNat h
  rw [Int.toNat_of_nonneg h0] at this
  exact this

def mixed (c k : Int) : Int :=
  let n := (c % 2147483647 + 7919 * k + 1) * 48271 % 2147483647
  n * (n / 1009 + 69621) % 2147483647
theorem mixed_ok (c k : Int) (h0 : 0 ≤ k) (h1 : k < 1000000) (h : Hm) : F 17 [.int c, .int k] h = .ok (.int (mixed c k)) h := by
  unfold F runF
  rw [show src.prg.fns 17 = ⟨2, 3, b17⟩ from rfl]
  simp only [b17]
  have a0 := Int.emod_nonneg c (show (2147483647 : Int) ≠ 0 by decide)
  have a1 := Int.emod_lt_of_pos c (show (0 : Int) < 2147483647 by decide)
  have n0 := Int.emod_nonneg ((c % 2147483647 + 7919 * k + 1) * 48271) (show (2147483647 : Int) ≠ 0 by decide)
  have n1 := Int.emod_lt_of_pos ((c % 2147483647 + 7919 * k + 1) * 48271) (show (0 : Int) < 2147483647 by decide)
  simp [opB_mod _ _ _ (show (0 : Int) < 2147483647 by decide), opB_mul64 false 7919 k (by decide) (by decide) (by omega) (by omega), opB_mul64 false (c % 2147483647 + 7919 * k + 1) 48271 (by omega) (by omega) (by decide) (by decide),
    opB_fdiv64 false _ 1009 (by decide) (by decide)]
  unfold mixed
  dsimp only
  generalize (c % 2147483647 + 7919 * k + 1) * 48271 % 2147483647 = n at n0 n1
  rw [opB_mul64 false n (n / 1009 + 69621) (by omega) (by omega) (by omega) (by omega)]
  simp [opB_mod _ _ _ (show (0 : Int) < 2147483647 by decide)]
theorem mixed_in (c k : Int) : 0 ≤ mixed c k ∧ mixed c k < 2147483647 := ⟨Int.emod_nonneg _ (by decide), Int.emod_lt_of_pos _ (by decide)⟩

/-! steps: what step_of makes of any data -/
def isNum (d : D) (e : Int) : Bool := match d with
  | .int i => decide (0 ≤ i) && decide (i < e)
  | _ => false
theorem is_number_ok (d : D) (e : Int) (hp : plainD d = true) (h : Hm) : F 3 [d, .int e] h = .ok (.bl (isNum d e)) h := by
  unfold F runF
  rw [show src.prg.fns 3 = ⟨2, 2, b3⟩ from rfl]
  simp only [b3]
  cases d with
  | int i =>
    simp [isNum]
    by_cases h1 : 0 ≤ i <;> by_cases h2 : i < e <;> simp [h1, h2]
  | ref n => cases hp
  | ins c fs => cases hp
  | scr xs => simp [isNum, isaD]
  | _ => simp [isNum]
/-- the parts behind the word are below their ends -/
def fitsP : List D → List Int → Bool
  | [], [] => true
  | d :: r, e :: s => isNum d e && fitsP r s
  | _, _ => false
theorem fits_0 (w : D) (ps : List D) (h : Hm) : F 4 [.tup (w :: ps), .lst []] h = .ok (.bl (fitsP ps [])) h := by
  unfold F runF
  rw [show src.prg.fns 4 = ⟨2, 3, b4⟩ from rfl]
  simp only [b4]
  cases ps with
  | nil =>
    have e : ∀ ρ, evE (src.prg.C 4) none q4_0 (some (.tup [w]) :: some (.lst []) :: ρ) h = .ok (.lst []) h := fun ρ => by
      unfold q4_0
      simp [e_comp]
      rw [iterR1_int _ rfl]
      simp [rangeD, newL_pure]
    simp [e, fitsP]
  | cons x r =>
    have e : ¬ (r.length : Int) + 1 + 1 = 1 := by omega
    simp [fitsP, e]
theorem fits_2 (w : D) (ps : List D) (hp : plainDs ps = true) (a b : Int) (h : Hm) : F 4 [.tup (w :: ps), .lst [.int a, .int b]] h = .ok (.bl (fitsP ps [a, b])) h := by
  unfold F runF
  rw [show src.prg.fns 4 = ⟨2, 3, b4⟩ from rfl]
  simp only [b4]
  match ps, hp with
  | [], _ => simp [fitsP]
  | [x], _ => simp [fitsP]
  | [x, y], hp =>
    have hx : plainD x = true := by
      simp [plainDs] at hp; exact hp.1
    have hy : plainD y = true := by
      simp [plainDs] at hp; exact hp.2
    have e : evE (src.prg.C 4) none q4_0 [some (.tup [w, x, y]), some (.lst [.int a, .int b]), none] h = .ok (.lst [.bl (isNum x a), .bl (isNum y b)]) h := by
      unfold q4_0
      simp [e_comp]
      rw [iterR1_int _ rfl]
      rw [show rangeD 0 (Int.toNat 2) = [D.int 0, D.int 1] from rfl]
      simp [callF (show 3 < 4 by decide), is_number_ok _ _ hx, is_number_ok _ _ hy, Mini.wipe, newL_pure]
    simp [e, fitsP]
  | x :: y :: z :: r, _ =>
    have e : ¬ (r.length : Int) + 1 + 1 + 1 + 1 = 3 := by omega
    simp [fitsP, e]
theorem step_init {c : Nat} (hc : src.base.fl c 2 = true) (d : D) (h : Hm) : F 5 [.ref h.length, d] (h ++ [.ins c []]) = .ok .non (h ++ [.ins c [(2, d)]]) := by
  have hfl : (src.prg.C 5).fl c 2 = true := by rw [show (src.prg.C 5).fl c 2 = src.base.fl c 2 from mkC_fl]; exact hc
  unfold F runF
  rw [show src.prg.fns 5 = ⟨2, 2, b5⟩ from rfl]
  simp only [b5]
  simp [setAD, hfl, Mini.putF, set_last]
theorem step_make {c n : Nat} (hn : 5 < n) (hc : src.base.fl c 2 = true) (hi : src.base.ini c = some 5) (d : D) (h : Hm) : makeD (src.prg.C n) c [d] h = .ok (.ref h.length) (h ++ [.ins c [(2, d)]]) := by
  unfold makeD
  rw [show (src.prg.C n).ini c = some 5 from mkC_ini2 hi hn]
  dsimp only
  rw [callF hn, step_init hc]
  rfl
/-- the class of step that a tuple tells -/
def stepCls (w : D) (ps : List D) : Option Nat :=
  if w = .str "put" ∧ fitsP ps [4, 1000000000000000000000000000000000000000000000000000000000000] = true then some 5
  else if w = .str "add" ∧ fitsP ps [4, 4] = true then some 6
  else if w = .str "set" ∧ fitsP ps [12, 4] = true then some 7
  else if w = .str "look" ∧ fitsP ps [4, 12] = true then some 8
  else if w = .str "swap" ∧ fitsP ps [4, 12] = true then some 9
  else if w = .str "clear" ∧ fitsP ps [] = true then some 10
  else if w = .str "skip" ∧ fitsP ps [4, 121] = true then some 11
  else none
def stepAny : D → Option Nat
  | .tup (w :: ps) => stepCls w ps
  | _ => none
/-- one test of step_of -/
theorem step_test {w : D} {ps : List D} {s : Str} {es : List Int} {c n : Nat} {ex : E} {h : Hm} (hn : n = 6) (okw : okD 60 w = true) (hs : PyData.canLay0 (.str s) = true) (he : ∀ ρ h, evE (src.prg.C n) none ex ρ h = .ok (.lst (es.map .int)) h)
    (hf : ∀ h, F 4 [.tup (w :: ps), .lst (es.map .int)] h = .ok (.bl (fitsP ps es)) h) (hc : src.base.fl c 2 = true) (hi : src.base.ini c = some 5) (hp : isPs (w :: ps) = true) :
    exS (src.prg.C n) none (.ite (.bool true [(.cmp .eq (.var 1) (.con (.str s))), (.call 4 [(.var 0), ex] [])]) [.ret (.frz (.make c [(.var 0)] []))] []) [some (.tup (w :: ps)), some w] h =
      if w = .str s ∧ fitsP ps es = true then .ok (.ret (.ins c [(2, .tup (w :: ps))])) [some (.tup (w :: ps)), some w] (h ++ [.dead]) else .ok .next [some (.tup (w :: ps)), some w] h := by
  subst hn
  have ei : (src.prg.C 6).ini c = some 5 := mkC_ini2 hi (by decide)
  have ef : isPF [(2, D.tup (w :: ps))] = true := by
    show (isPs (w :: ps) && true) = true
    rw [hp]; rfl
  simp [eq_str_any okw s hs, he, callF (show 4 < 6 by decide), hf, ei, step_make (show 5 < 6 by decide) hc hi, frz_make _ _ _ ef, ifD_bl]
  by_cases e1 : w = .str s <;> cases e2 : fitsP ps es <;> simp [e1, e2, eq_str_any okw s hs]
theorem step_of_any (d : D) (ok : okD 60 d = true) (h : Hm) : F 6 [d] h = (match stepAny d with
    | some c => .ok (.ins c [(2, d)]) h
    | none => .exc 1 [] h) := by
  unfold F runF
  rw [show src.prg.fns 6 = ⟨1, 2, b6⟩ from rfl]
  have hx : (src.prg.C 6).xf 1 = [] := by rw [show (src.prg.C 6).xf = src.base.xf from mkC_xf]; rfl
  have ho : (src.prg.C 6).xok 1 = true := by rw [show (src.prg.C 6).xok = src.base.xok from mkC_xok]; rfl
  have hr := fun ρ => x_raise (C := src.prg.C 6) (ρ := ρ) (h := h) 1 hx ho
  simp only [b6]
  match d, ok with
  | .tup (w :: ps), ok =>
    have ok' := ok
    simp only [okD, okDs, Bool.and_eq_true, decide_eq_true_eq] at ok'
    have okw : okD 60 w = true := okD_mono (by decide) ok'.2.1
    have okp : plainDs ps = true := okDs_plain ok'.2.2
    have hp : isPs (w :: ps) = true := by
      show (isP w && isPs ps) = true
      rw [okD_isP okw, okDs_isPs ok'.2.2]; rfl
    have e0 := eq_tup_nil (h := h) ok
    rw [if_pos (show [D.tup (w :: ps)].length = 1 from rfl)]
    simp only [List.map_cons, List.map_nil, List.cons_append, List.nil_append, show (2 - 1 : Nat) = 1 from rfl, List.replicate]
    rw [seq_step (ρ1 := [some (.tup (w :: ps)), none]) (h1 := h)]
    rotate_left
    · simp [tupD_ok, e0]
    rw [seq_step (ρ1 := [some (.tup (w :: ps)), some w]) (h1 := h)]
    rotate_left
    · simp
    simp only [x_cons]
    rw [step_test (s := "put") (es := [4, 1000000000000000000000000000000000000000000000000000000000000]) (ps := ps) rfl okw (by decide +kernel) (fun ρ h => by simp [newL_pure]) (fun h => fits_2 w ps okp _ _ h) rfl rfl hp]
    have t2 := step_test (s := "add") (es := [4, 4]) (c := 6) (ex := (.lst false [(.con (.int (4))), (.con (.int (4)))])) (ps := ps) (h := h) rfl okw (by decide +kernel) (fun ρ h => by simp [newL_pure]) (fun h => fits_2 w ps okp _ _ h) rfl rfl hp
    have t3 := step_test (s := "set") (es := [12, 4]) (c := 7) (ex := (.lst false [(.con (.int (12))), (.con (.int (4)))])) (ps := ps) (h := h) rfl okw (by decide +kernel) (fun ρ h => by simp [newL_pure]) (fun h => fits_2 w ps okp _ _ h) rfl rfl hp
    have t4 := step_test (s := "look") (es := [4, 12]) (c := 8) (ex := (.lst false [(.con (.int (4))), (.con (.int (12)))])) (ps := ps) (h := h) rfl okw (by decide +kernel) (fun ρ h => by simp [newL_pure]) (fun h => fits_2 w ps okp _ _ h) rfl rfl hp
    have t5 := step_test (s := "swap") (es := [4, 12]) (c := 9) (ex := (.lst false [(.con (.int (4))), (.con (.int (12)))])) (ps := ps) (h := h) rfl okw (by decide +kernel) (fun ρ h => by simp [newL_pure]) (fun h => fits_2 w ps okp _ _ h) rfl rfl hp
    have t6 := step_test (s := "clear") (es := []) (c := 10) (ex := (.lst false [])) (ps := ps) (h := h) rfl okw (by decide +kernel) (fun ρ h => by simp [newL_pure]) (fun h => fits_0 w ps h) rfl rfl hp
    have t7 := step_test (s := "skip") (es := [4, 121]) (c := 11) (ex := (.lst false [(.con (.int (4))), (.con (.int (121)))])) (ps := ps) (h := h) rfl okw (by decide +kernel) (fun ρ h => by simp [newL_pure]) (fun h => fits_2 w ps okp _ _ h) rfl rfl hp
    have hP : isP (.ins 0 [(2, .tup (w :: ps))]) = true := by
      show (isPs (w :: ps) && true) = true
      rw [hp]; rfl
    have gd := fun c => gc_drop (h := h) [.dead] (.ins c [(2, .tup (w :: ps))]) hP
    unfold stepAny stepCls
    dsimp only
    split
    · simp [gd]
    · rw [seqB_next, t2]
      split
      · simp [gd]
      · rw [seqB_next, t3]
        split
        · simp [gd]
        · rw [seqB_next, t4]
          split
          · simp [gd]
          · rw [seqB_next, t5]
            split
            · simp [gd]
            · rw [seqB_next, t6]
              split
              · simp [gd]
              · rw [seqB_next, t7]
                split
                · simp [gd]
                · rw [seqB_next, hr]
                  simp [endR, gcX_same]
  | .tup [], _ =>
    have e0 : opC .eq (.tup []) (.tup []) h = .ok (.bl true) h := eq_ok _ rfl
    simp [stepAny, tupD_ok, e0, hr, endR, gcX_same]
  | .non, _ => simp [stepAny, hr, endR, gcX_same]
  | .bl _, _ => simp [stepAny, hr, endR, gcX_same]
  | .int _, _ => simp [stepAny, hr, endR, gcX_same]
  | .str _, _ => simp [stepAny, hr, endR, gcX_same]
  | .lst _, _ => simp [stepAny, hr, endR, gcX_same]
  | .scr _, _ => simp [stepAny, hr, endR, gcX_same, isaD]
  | .ref _, ok => simp [okD] at ok
  | .ins _ _, ok => simp [okD] at ok

/-! good steps -/
inductive Told where
  | put (b d : Int) | add (b o : Int) | set (n b : Int) | look (b n : Int) | swap (b n : Int) | clear | skip (b p : Int)
  deriving DecidableEq
def Told.d : Told → D
  | .put b d => .tup [.str "put", .int b, .int d]
  | .add b o => .tup [.str "add", .int b, .int o]
  | .set n b => .tup [.str "set", .int n, .int b]
  | .look b n => .tup [.str "look", .int b, .int n]
  | .swap b n => .tup [.str "swap", .int b, .int n]
  | .clear => .tup [.str "clear"]
  | .skip b p => .tup [.str "skip", .int b, .int p]
def Told.good : Told → Prop
  | .put b d => (0 ≤ b ∧ b < 4) ∧ 0 ≤ d ∧ d < 1000000000000000000000000000000000000000000000000000000000000
  | .add b o => (0 ≤ b ∧ b < 4) ∧ 0 ≤ o ∧ o < 4
  | .set n b => (0 ≤ n ∧ n < 12) ∧ 0 ≤ b ∧ b < 4
  | .look b n => (0 ≤ b ∧ b < 4) ∧ 0 ≤ n ∧ n < 12
  | .swap b n => (0 ≤ b ∧ b < 4) ∧ 0 ≤ n ∧ n < 12
  | .clear => True
  | .skip b p => (0 ≤ b ∧ b < 4) ∧ 0 ≤ p ∧ p < 121
def Told.cls : Told → Nat
  | .put .. => 5
  | .add .. => 6
  | .set .. => 7
  | .look .. => 8
  | .swap .. => 9
  | .clear => 10
  | .skip .. => 11
theorem Told.ok (t : Told) : okD 1 t.d = true := by cases t <;> simp [Told.d, okD, okDs]
theorem Told.strict (t : Told) : strD0 t.d = true := by cases t <;> simp [Told.d, strD0, strDs0]
theorem Told.ok60 (t : Told) : okD 60 t.d = true := okD_mono (by decide) t.ok
theorem Told.any (t : Told) (g : t.good) : stepAny t.d = some t.cls := by
  cases t <;> simp only [Told.good] at g <;> simp [Told.d, stepAny, stepCls, fitsP, isNum, Told.cls, g]
/-- the step itself -/
def Told.step (t : Told) : D := .ins t.cls [(2, t.d)]
theorem step_of_ok (t : Told) (g : t.good) (h : Hm) : F 6 [t.d] h = .ok t.step h := by
  rw [step_of_any _ t.ok60, t.any g]; rfl
theorem step_attr {n : Nat} (t : Told) (h : Hm) : attrD (src.prg.C n) t.step 2 h = .ok t.d h := by
  have hfl : (src.prg.C n).fl t.cls 2 = true := by
    rw [show (src.prg.C n).fl t.cls 2 = src.base.fl t.cls 2 from mkC_fl]
    cases t <;> rfl
  unfold attrD Told.step insD
  dsimp only
  rw [hfl]; rfl
theorem step_meth {n m i : Nat} (t : Told) (hm : src.base.mt t.cls m = some i) (hi : i < n) (h0 : m ≠ 2) (h : Hm) : methD (src.prg.C n) t.step m h = some i := by
  unfold methD Told.step insD
  dsimp only
  have e : ¬ (m == 2) = true := by simpa using h0
  have e2 : (src.prg.C n).mt t.cls m = some i := mkC_mt2 hm hi
  simp [getF, List.lookup, e, e2]
def optI : Option Int → D
  | some i => .int i
  | none => .non
theorem optI_ok (o : Option Int) : okD 60 (optI o) = true := by cases o <;> rfl
theorem Told.isP (t : Told) : Mini.isP t.step = true := by
  show (Mini.isP t.d && true) = true
  rw [okD_isP t.ok]; rfl
def Told.word : Told → String
  | .put .. => "put" | .add .. => "add" | .set .. => "set" | .look .. => "look" | .swap .. => "swap" | .clear => "clear" | .skip .. => "skip"
theorem Told.ix0 (t : Told) (h : Hm) : ixD t.d (.int 0) h = .ok (.str t.word) h := by cases t <;> simp [Told.d, Told.word]

def Told.nexts (p : Int) : Told → List Int
  | .skip _ q => sortU [p + 1, q]
  | _ => [p + 1]
def nextsIx : Told → Nat
  | .skip .. => 8
  | _ => 7
theorem sset_two (mk : Bool) (a b : Int) (h : Hm) : sortedSetD mk (.lst [.int a, .int b]) h = newL mk ((sortU [a, b]).map .int) h := sset_lstN mk [a, b] (show 2 < 60 by decide)
theorem sortU_two (a b : Int) : (sortU [a, b]).length ≤ 2 := sortU_len _
theorem nexts_fn (t : Told) (p : Int) (h : Hm) : F (nextsIx t) [t.step, .int p] h = .ok (.lst ((t.nexts p).map .int)) h := by
  cases t <;> unfold F runF nextsIx
  case skip b q =>
    rw [show src.prg.fns 8 = ⟨2, 2, b8⟩ from rfl]
    simp only [b8]
    have e := newL_pure (h := h) ((sortU [p + 1, q]).map .int) (by rw [List.length_map]; exact Nat.le_trans (sortU_two _ _) (by decide))
    have e2 : newL false [.int (p + 1), .int q] h = .ok (.lst [.int (p + 1), .int q]) h := newL_pure _ (show 2 ≤ 16777216 by decide)
    simp [step_attr, Told.d, Told.nexts, e2, sset_two, e]
  all_goals
    rw [show src.prg.fns 7 = ⟨2, 2, b7⟩ from rfl]
    simp only [b7]
    simp [Told.nexts, newL_pure]
theorem nexts_call (t : Told) {n : Nat} (h1 : 8 < n) (h2 : 7 < n) (p : Int) (h : Hm) : methD (src.prg.C n) t.step 3 h = some (nextsIx t) ∧ (src.prg.C n).fn (nextsIx t) [t.step, .int p] h = .ok (.lst ((t.nexts p).map .int)) h := by
  have hi : nextsIx t < n := by cases t <;> assumption
  exact ⟨step_meth t (by cases t <;> rfl) hi (by decide) h, by rw [callF hi]; exact nexts_fn t p h⟩

/-! parts, programs -/
/-- a part as it is handed in -/
abbrev tds (p : List Told) : List D := p.map Told.d
abbrev prgD (ps : List (List Told)) : List D := ps.map fun p => .tup (tds p)
structure GoodPart (p : List Told) : Prop where
  len : p.length ≤ 120
  good : ∀ t ∈ p, t.good
  skip : ∀ t ∈ p, ∀ b q, t = .skip b q → q ≤ (p.length : Int)
theorem mem_nexts {t : Told} {q a : Int} : a ∈ t.nexts q ↔ a = q + 1 ∨ ∃ b, t = .skip b a := by
  cases t with
  | skip b p =>
    simp only [Told.nexts, mem_sortU, List.mem_cons, List.not_mem_nil, or_false]
    constructor
    · rintro (h | h)
      · exact .inl h
      · exact .inr ⟨b, by rw [h]⟩
    · rintro (h | ⟨_, h⟩)
      · exact .inl h
      · cases h; exact .inr rfl
  | _ => simp [Told.nexts]
theorem nexts_in {p : List Told} (G : GoodPart p) {t : Told} (ht : t ∈ p) {q : Nat} (hq : q < p.length) {a : Int} (ha : a ∈ t.nexts (q : Int)) : 0 ≤ a ∧ a ≤ (p.length : Int) := by
  rcases mem_nexts.mp ha with h | ⟨b, h⟩
  · omega
  · have g := G.good t ht
    have := G.skip t ht b a h
    subst h
    simp only [Told.good] at g
    omega
structure GoodPrg (ps : List (List Told)) : Prop where
  some : 1 ≤ ps.length
  few : ps.length ≤ 4
  part : ∀ p ∈ ps, GoodPart p

/-! steps of parts of a length -/
def okStep (L : Int) (t : Told) : Prop := t.good ∧ ∀ b q, t = .skip b q → q ≤ L
theorem tds_app (p : List Told) (t : Told) : tds p ++ [t.d] = tds (p ++ [t]) := by simp
theorem prgD_app (ps : List (List Told)) (p : List Told) : prgD ps ++ [.tup (tds p)] = prgD (ps ++ [p]) := by simp
theorem okPart (p : List Told) (L : Int) (h1 : p.length ≤ 120) (h2 : L ≤ p.length) (h : ∀ t ∈ p, okStep L t) : GoodPart p := ⟨h1, fun t ht => (h t ht).1, fun t ht b q e => by have := (h t ht).2 b q e; omega⟩
theorem prg_okD (ps : List (List Told)) : okD 60 (.tup (prgD ps)) = true := by
  have : okDs 59 (prgD ps) = true := okDs_map _ _ fun p _ => by
    have : okDs 58 (tds p) = true := okDs_map _ _ fun t _ => okD_mono (by decide) t.ok
    simp only [okD, this]; rfl
  simp only [okD, this]; rfl
theorem prg_strict (ps : List (List Told)) : strD0 (.tup (prgD ps)) = true := by
  show strDs0 (prgD ps) = true
  exact strDs0_map _ _ fun p _ => strDs0_map _ _ fun t _ => t.strict
theorem prg_isP (ps : List (List Told)) : isP (.tup (prgD ps)) = true := okD_isP (prg_okD ps)
theorem tds_inj : ∀ {p q : List Told}, tds p = tds q → p = q
  | [], [], _ => rfl
  | [], _ :: _, h => by simp at h
  | _ :: _, [], h => by simp at h
  | a :: p, b :: q, h => by
    simp only [tds, List.map_cons, List.cons.injEq] at h
    have e : a = b := by
      have h1 := h.1
      cases a <;> cases b <;> simp [Told.d] at h1 <;> simp [h1]
    rw [e, tds_inj h.2]
theorem ix_prt {ps : List (List Told)} {k : Nat} (hk : k < ps.length) (h : Hm) : ixD (.tup (prgD ps)) (.int (k : Int)) h = .ok (.tup (tds (ps.getD k []))) h := ix_tup _ _ _ (atI_nat (by
  rw [List.getElem?_map, List.getElem?_eq_getElem hk, List.getD_eq_getElem?_getD, List.getElem?_eq_getElem hk]; rfl))
theorem ix_stp {p : List Told} {q : Nat} {t : Told} (hq : p[q]? = some t) (h : Hm) : ixD (.tup (tds p)) (.int (q : Int)) h = .ok t.d h := ix_tup _ _ _ (atI_nat (by rw [List.getElem?_map, hq]; rfl))
theorem len_prg (mk : Bool) (ps : List (List Told)) (h : Hm) : biCall .len mk [.tup (prgD ps)] h = .ok (.int (ps.length : Int)) h := by
  rw [len_tup, List.length_map]
theorem len_tds (mk : Bool) (p : List Told) (h : Hm) : biCall .len mk [.tup (tds p)] h = .ok (.int (p.length : Int)) h := by
  rw [len_tup, List.length_map]
theorem getD_part {ps : List (List Told)} (G : GoodPrg ps) {k : Nat} (hk : k < ps.length) : GoodPart (ps.getD k []) := by
  rw [List.getD_eq_getElem?_getD, List.getElem?_eq_getElem hk]
  exact G.part _ (List.getElem_mem hk)
theorem ix_intsL (is : List Int) (k : Int) (h : Hm) (h0 : 0 ≤ k) (h1 : k < (is.length : Int)) : ixD (.lst (is.map D.int)) (.int k) h = .ok (.int (is.getD k.toNat 0)) h := by
  have hk : k.toNat < is.length := by omega
  refine ix_lst _ _ _ (atI_of h0 ?_)
  rw [List.getElem?_map, List.getElem?_eq_getElem hk, List.getD_eq_getElem?_getD, List.getElem?_eq_getElem hk]; rfl
theorem getD_memI (is : List Int) (k : Nat) (h : k < is.length) : is.getD k 0 ∈ is := by
  rw [List.getD_eq_getElem?_getD, List.getElem?_eq_getElem h]
  exact List.getElem_mem h
theorem shr_ok (mk : Bool) (i j : Int) (h : Hm) (c : 0 ≤ j) : opB .shr mk (.int i) (.int j) h = .ok (.int (i / 2 ^ j.toNat)) h := if_pos c

/-! ranges -/
theorem range_map (lo : Int) (n : Nat) : rangeD lo n = (List.range n).map fun (k : Nat) => D.int (lo + (k : Int)) := rfl
theorem range_map0 (n : Nat) : rangeD 0 n = (List.range n).map fun (k : Nat) => D.int (k : Int) := by
  unfold rangeD
  refine List.map_congr_left fun k _ => ?_
  rw [Int.zero_add]
theorem range_at {n i k : Nat} (h : (List.range n)[i]? = some k) : k = i ∧ i < n := by
  by_cases hi : i < n
  · rw [List.getElem?_range hi] at h
    cases h
    exact ⟨rfl, hi⟩
  · rw [List.getElem?_eq_none (by rw [List.length_range]; omega)] at h
    cases h

/-! texts -/
theorem tl_j (t : Str) (ps : List Str) : TL.tl (Txt.join t ps) = TL.joinL (TL.tl t) (ps.map TL.tl) := by rw [TL.join_eq, TL.tl_join]
theorem joinL_free {s : Nat} {S : List Nat} (hS : s ∉ S) : ∀ {l : List (List Nat)}, (∀ p ∈ l, s ∉ p) → s ∉ TL.joinL S l
  | [], _ => by simp [TL.joinL]
  | [p], h => h p (List.mem_singleton.mpr rfl)
  | p :: q :: r, h => by
    show s ∉ p ++ (S ++ TL.joinL S (q :: r))
    intro hm
    rcases List.mem_append.mp hm with hm | hm
    · exact h p (List.mem_cons_self ..) hm
    · rcases List.mem_append.mp hm with hm | hm
      · exact hS hm
      · exact joinL_free hS (fun z hz => h z (List.mem_cons_of_mem _ hz)) hm
theorem joinL_len (S : List Nat) : ∀ l : List (List Nat), (TL.joinL S l).length ≤ (l.map (·.length)).sum + l.length * S.length
  | [] => by simp [TL.joinL]
  | [p] => by simp [TL.joinL]
  | p :: q :: r => by
    have ih := joinL_len S (q :: r)
    show (p ++ (S ++ TL.joinL S (q :: r))).length ≤ _
    rw [List.length_append, List.length_append, List.map_cons, List.sum_cons, List.length_cons (a := p), Nat.add_mul]
    omega
theorem sum_le {α : Type} (f : α → Nat) (c : Nat) : ∀ l : List α, (∀ x ∈ l, f x ≤ c) → (l.map f).sum ≤ l.length * c
  | [], _ => by simp
  | x :: l, h => by
    have := sum_le f c l fun y hy => h y (List.mem_cons_of_mem _ hy)
    have := h x (List.mem_cons_self ..)
    rw [List.map_cons, List.sum_cons, List.length_cons, Nat.add_mul]
    omega
theorem join_len (t : Str) (ps : List Str) (c : Nat) (h : ∀ p ∈ ps, p.length ≤ c) : (Txt.join t ps).length ≤ ps.length * (c + t.length) := by
  rw [TL.len_tl, tl_j]
  have a := joinL_len (TL.tl t) (ps.map TL.tl)
  have b := sum_le (fun p : List Nat => p.length) c (ps.map TL.tl) fun p hp => by
    obtain ⟨x, hx, rfl⟩ := List.mem_map.mp hp
    rw [← TL.len_tl]; exact h x hx
  rw [List.length_map] at a b
  rw [← TL.len_tl t] at a
  rw [Nat.mul_add]
  omega
/-! numbers as texts -/
def nt (i : Int) : Str := Str.ofString (toString i)
theorem nt_tl (n : Nat) : TL.tl (nt (n : Int)) = TL.numL n := TL.tl_num n
theorem nt_len {i : Int} (h0 : 0 ≤ i) (h1 : i < 1000000000000000000000000000000000000000000000000000000000000) : (nt i).length ≤ 60 ∧ 1 ≤ (nt i).length := by
  obtain ⟨n, rfl⟩ := Int.eq_ofNat_of_zero_le h0
  have e : (10 : Int) ^ 60 = 1000000000000000000000000000000000000000000000000000000000000 := by decide
  refine ⟨PyProof.Rows.toString_length_le h0 (by decide) (by rw [e]; exact h1), ?_⟩
  rw [TL.len_tl, show TL.tl (nt (n : Int)) = TL.numL n from nt_tl n]
  exact List.length_pos_iff.mpr (TL.numL_ne n)
theorem nt_free {i : Int} (h0 : 0 ≤ i) {s : Nat} (h : s < 48 ∨ 57 < s) : s ∉ TL.tl (nt i) := by
  obtain ⟨n, rfl⟩ := Int.eq_ofNat_of_zero_le h0
  rw [show TL.tl (nt (n : Int)) = TL.numL n from nt_tl n]
  exact TL.numL_free h
theorem nt_digits {i : Int} (h0 : 0 ≤ i) : ∀ c ∈ TL.tl (nt i), 48 ≤ c ∧ c ≤ 57 := by
  obtain ⟨n, rfl⟩ := Int.eq_ofNat_of_zero_le h0
  rw [show TL.tl (nt (n : Int)) = TL.numL n from nt_tl n]
  exact TL.numL_digits n
theorem nt_reads {i : Int} (h0 : 0 ≤ i) (h1 : i < 1000000000000000000000000000000000000000000000000000000000000) : intText? (nt i) = some i := by
  have l := (nt_len h0 h1).1
  obtain ⟨n, rfl⟩ := Int.eq_ofNat_of_zero_le h0
  refine TL.int_num ?_
  rw [TL.len_tl, show TL.tl (nt (n : Int)) = TL.numL n from nt_tl n] at l
  omega
theorem nt_log {i : Int} (h0 : 0 ≤ i) (h1 : i < 1000000000000000000000000000000000000000000000000000000000000) : i.natAbs.log2 < 1920 := by
  have e : (1000000000000000000000000000000000000000000000000000000000000 : Int) < 2 ^ 200 := by decide
  have h2 : i.natAbs < 2 ^ 200 := by
    have e2 : ((2 : Int) ^ 200) = ((2 ^ 200 : Nat) : Int) := by decide
    omega
  by_cases z : i.natAbs = 0
  · rw [z]; decide
  · have := (Nat.log2_lt z).mpr h2
    omega
theorem str_nt (mk : Bool) {i : Int} (h0 : 0 ≤ i) (h1 : i < 1000000000000000000000000000000000000000000000000000000000000) (h : Hm) : biCall .strOf mk [.int i] h = .ok (.str (nt i)) h := if_pos (nt_log h0 h1)
theorem str_tx (mk : Bool) (x : Str) (h : Hm) : biCall .strOf mk [.str x] h = .ok (.str x) h := rfl
theorem int_nt (mk : Bool) {i : Int} (h0 : 0 ≤ i) (h1 : i < 1000000000000000000000000000000000000000000000000000000000000) (h : Hm) : biCall .intOf mk [.str (nt i)] h = .ok (.int i) h := by
  show intD (.str (nt i)) h = _
  unfold intD
  dsimp only
  have := (nt_len h0 h1).1
  rw [if_pos (by omega), nt_reads h0 h1]
theorem len_tx (mk : Bool) (x : Str) (c : x.length ≤ 16777216) (h : Hm) : biCall .len mk [.str x] h = .ok (.int (x.length : Int)) h := if_pos c
/-! steps and programs as texts -/
def Told.nums : Told → List Int
  | .put b d => [b, d] | .add b o => [b, o] | .set n b => [n, b] | .look b n => [b, n] | .swap b n => [b, n] | .clear => [] | .skip b p => [b, p]
def Told.wd (t : Told) : Str := Str.ofString t.word
theorem Told.d_eq (t : Told) : t.d = .tup (.str t.wd :: t.nums.map D.int) := by cases t <;> rfl
theorem Told.nums_ok (t : Told) (g : t.good) : ∀ i ∈ t.nums, 0 ≤ i ∧ i < 1000000000000000000000000000000000000000000000000000000000000 := by
  have q : (121 : Int) < 1000000000000000000000000000000000000000000000000000000000000 := by decide
  cases t <;> simp only [Told.good] at g <;> simp only [Told.nums, List.mem_cons, List.not_mem_nil, or_false] <;> intro i hi
  case clear => exact hi.elim
  all_goals rcases hi with rfl | rfl <;> omega
theorem Told.nums_len (t : Told) : t.nums.length ≤ 2 := by cases t <;> simp [Told.nums]
def Told.words (t : Told) : List Str := t.wd :: t.nums.map nt
def Told.txt (t : Told) : Str := Txt.join " " t.words
theorem word_in (t : Told) : t.word ∈ ["put", "add", "set", "look", "swap", "clear", "skip"] := by cases t <;> simp [Told.word]
theorem wd_len (t : Told) : t.wd.length ≤ 5 := (by decide +kernel : ∀ w ∈ ["put", "add", "set", "look", "swap", "clear", "skip"], (Str.ofString w).length ≤ 5) _ (word_in t)
theorem wd_free (t : Told) : 32 ∉ TL.tl t.wd ∧ 10 ∉ TL.tl t.wd := (by decide +kernel : ∀ w ∈ ["put", "add", "set", "look", "swap", "clear", "skip"], 32 ∉ TL.tl (Str.ofString w) ∧ 10 ∉ TL.tl (Str.ofString w)) _ (word_in t)
theorem wd_low (t : Told) : ∀ c ∈ TL.tl t.wd, c < 128 := (by decide +kernel : ∀ w ∈ ["put", "add", "set", "look", "swap", "clear", "skip"], ∀ c ∈ TL.tl (Str.ofString w), c < 128) _ (word_in t)
theorem words_len (t : Told) (g : t.good) : ∀ w ∈ t.words, w.length ≤ 60 := fun w hw => by
  rcases List.mem_cons.mp hw with rfl | hw
  · have := wd_len t; omega
  · obtain ⟨i, hi, rfl⟩ := List.mem_map.mp hw
    have := t.nums_ok g i hi
    exact (nt_len this.1 this.2).1
theorem words_free (t : Told) (g : t.good) : ∀ w ∈ t.words, 32 ∉ TL.tl w ∧ 10 ∉ TL.tl w := fun w hw => by
  rcases List.mem_cons.mp hw with rfl | hw
  · exact wd_free t
  · obtain ⟨i, hi, rfl⟩ := List.mem_map.mp hw
    have := t.nums_ok g i hi
    exact ⟨nt_free this.1 (by omega), nt_free this.1 (by omega)⟩
theorem words_many (t : Told) : t.words.length ≤ 3 := by
  have := t.nums_len
  unfold Told.words
  rw [List.length_cons, List.length_map]
  omega
theorem txt_len (t : Told) (g : t.good) : t.txt.length ≤ 183 := by
  have a := join_len " " t.words 60 (words_len t g)
  have b := words_many t
  have c : (Str.ofString " ").length = 1 := by decide +kernel
  rw [c] at a
  have : t.words.length * (60 + 1) ≤ 3 * 61 := Nat.mul_le_mul_right _ b
  exact Nat.le_trans a this
theorem txt_free (t : Told) (g : t.good) : 10 ∉ TL.tl t.txt := by
  unfold Told.txt
  rw [tl_j]
  refine joinL_free (by decide) fun p hp => ?_
  obtain ⟨w, hw, rfl⟩ := List.mem_map.mp hp
  exact (words_free t g w hw).2
theorem txt_split (t : Told) (g : t.good) : Txt.split t.txt " " = t.words :=
  TL.split_join (s := 32) (S := []) (by decide +kernel) (by decide +kernel) (by simp [Told.words]) fun p hp => (words_free t g p hp).1
theorem txt_clerk (t : Told) : t.txt ≠ "clerk" := fun e => by
  have e2 := congrArg TL.tl e
  unfold Told.txt at e2
  rw [tl_j] at e2
  revert e2
  cases t with
  | clear => decide
  | put => exact fun e2 => absurd (congrArg List.head? e2) (by show ¬ (some 112 = some 99); decide)
  | add => exact fun e2 => absurd (congrArg List.head? e2) (by show ¬ (some 97 = some 99); decide)
  | set => exact fun e2 => absurd (congrArg List.head? e2) (by show ¬ (some 115 = some 99); decide)
  | look => exact fun e2 => absurd (congrArg List.head? e2) (by show ¬ (some 108 = some 99); decide)
  | swap => exact fun e2 => absurd (congrArg List.head? e2) (by show ¬ (some 115 = some 99); decide)
  | skip => exact fun e2 => absurd (congrArg List.head? e2) (by show ¬ (some 115 = some 99); decide)
/-- an item: a clerk's own row, or a step's -/
def itx : Option Told → Str
  | none => "clerk"
  | some t => t.txt
def items (ps : List (List Told)) : List (Option Told) := ps.flatMap fun p => none :: p.map some
def rows (ps : List (List Told)) : List Str := (items ps).map itx
def progT (ps : List (List Told)) : Str := Txt.join "\n" (rows ps)
theorem mem_items {ps : List (List Told)} {t : Told} (h : some t ∈ items ps) : ∃ p ∈ ps, t ∈ p := by
  unfold items at h
  obtain ⟨p, hp, h⟩ := List.mem_flatMap.mp h
  rcases List.mem_cons.mp h with h | h
  · cases h
  · obtain ⟨x, hx, e⟩ := List.mem_map.mp h
    cases e
    exact ⟨p, hp, hx⟩
theorem items_len {ps : List (List Told)} (G : GoodPrg ps) : (items ps).length ≤ 484 := by
  have key : ∀ l : List (List Told), (∀ p ∈ l, p.length ≤ 120) → (items l).length ≤ l.length * 121 := by
    intro l
    induction l with
    | nil => intro _; exact Nat.le_refl _
    | cons p l ih =>
      intro h
      have a := ih fun q hq => h q (List.mem_cons_of_mem _ hq)
      have b := h p (List.mem_cons_self ..)
      show ((none :: p.map some) ++ items l).length ≤ _
      rw [List.length_append, List.length_cons, List.length_map, List.length_cons, Nat.add_mul]
      omega
  have := key ps fun p hp => (G.part p hp).len
  have := G.few
  have : ps.length * 121 ≤ 4 * 121 := Nat.mul_le_mul_right _ this
  omega
theorem row_ok {ps : List (List Told)} (G : GoodPrg ps) : ∀ r ∈ rows ps, r.length ≤ 183 ∧ 10 ∉ TL.tl r := fun r hr => by
  obtain ⟨x, hx, rfl⟩ := List.mem_map.mp hr
  cases x with
  | none => exact ⟨by decide, by decide⟩
  | some t =>
    obtain ⟨p, hp, ht⟩ := mem_items hx
    have g := (G.part p hp).good t ht
    exact ⟨txt_len t g, txt_free t g⟩
theorem rows_ne {ps : List (List Told)} (G : GoodPrg ps) : rows ps ≠ [] := by
  have := G.some
  cases ps with
  | nil => exact absurd this (by decide)
  | cons p r => simp [rows, items]
theorem prog_split {ps : List (List Told)} (G : GoodPrg ps) : Txt.split (progT ps) "\n" = rows ps :=
  TL.split_join (s := 10) (S := []) (by decide +kernel) (by decide +kernel) (rows_ne G) fun p hp => (row_ok G p hp).2
theorem prog_len {ps : List (List Told)} (G : GoodPrg ps) : (progT ps).length ≤ 484 * 184 := by
  have a := join_len "\n" (rows ps) 183 fun p hp => (row_ok G p hp).1
  have c : (Str.ofString "\n").length = 1 := by decide +kernel
  rw [c] at a
  have b := items_len G
  have : (rows ps).length * (183 + 1) ≤ 484 * 184 := Nat.mul_le_mul_right _ (by unfold rows; rw [List.length_map]; exact b)
  exact Nat.le_trans a this
theorem join_rows {ps : List (List Told)} (G : GoodPrg ps) : ((rows ps).map fun p : Str => p.length).sum + (rows ps).length * (Str.ofString "\n").length ≤ 16777216 := by
  have a := sum_le (fun p : Str => p.length) 183 (rows ps) fun p hp => (row_ok G p hp).1
  have b := items_len G
  have e : (rows ps).length = (items ps).length := List.length_map ..
  have c : (Str.ofString "\n").length = 1 := by decide +kernel
  rw [c]
  have : (rows ps).length * 183 ≤ 484 * 183 := Nat.mul_le_mul_right _ (by omega)
  omega
/-- reading item by item -/
def grow (s : List (List Told)) : Option Told → List (List Told)
  | none => s ++ [[]]
  | some t => s.dropLast ++ [s.getLastD [] ++ [t]]
theorem grow_some (s : List (List Told)) (p : List Told) (t : Told) : grow (s ++ [p]) (some t) = s ++ [p ++ [t]] := by
  simp [grow]
theorem grow_part : ∀ (p : List Told) (s : List (List Told)) (q : List Told), (p.map some).foldl grow (s ++ [q]) = s ++ [q ++ p]
  | [], s, q => by simp
  | t :: p, s, q => by
    rw [List.map_cons, List.foldl_cons, grow_some, grow_part p]
    simp
theorem grow_all : ∀ (ps s : List (List Told)), (items ps).foldl grow s = s ++ ps
  | [], s => by simp [items]
  | p :: ps, s => by
    show (((none :: p.map some) ++ items ps)).foldl grow s = _
    rw [List.foldl_append, List.foldl_cons, show grow s none = s ++ [[]] from rfl, grow_part p, grow_all ps]
    simp
theorem grow_ne : ∀ (l : List (Option Told)) (s : List (List Told)), s ≠ [] → l.foldl grow s ≠ []
  | [], _, h => h
  | x :: l, s, h => by
    rw [List.foldl_cons]
    refine grow_ne l _ ?_
    cases x <;> simp [grow]
theorem grow_at {ps : List (List Told)} (h1 : 1 ≤ ps.length) {i : Nat} {t : Told} (h : (items ps)[i]? = some (some t)) : ∃ s q, ((items ps).take i).foldl grow [] = s ++ [q] := by
  have hne : ((items ps).take i).foldl grow [] ≠ [] := by
    cases ps with
    | nil => exact absurd h1 (by decide)
    | cons p r =>
      have e : items (p :: r) = none :: (p.map some ++ items r) := rfl
      rw [e] at h ⊢
      cases i with
      | zero => simp at h
      | succ i =>
        rw [List.take_succ_cons, List.foldl_cons]
        exact grow_ne _ _ (by simp [grow])
  exact ⟨_, _, (List.dropLast_concat_getLast hne).symm⟩
theorem grow_take {ps : List (List Told)} {i : Nat} {x : Option Told} (h : (items ps)[i]? = some x) : ((items ps).take (i + 1)).foldl grow [] = grow (((items ps).take i).foldl grow []) x := by
  rw [List.take_succ, h, List.foldl_append]
  rfl
theorem split_okR {x y : Str} {l : List Str} (e : Txt.split x y = l) (hy : y.length ≠ 0) (hx : x.length + 2 ≤ 16777216) (hl : l.length ≤ 16777216) (mk : Bool) (h : Hm) : bmCall .split mk (.str x) [.str y] h = .ok (.lst (l.map D.str)) h := by
  show splitD (.str x) (.str y) h = _
  unfold splitD
  dsimp only
  rw [if_pos ⟨hy, hx⟩, e]
  exact newL_pure _ (by rw [List.length_map]; exact hl)
theorem allM_strs : ∀ l : List Str, allM toS (l.map D.str) = some l
  | [] => rfl
  | x :: r => by simp only [List.map_cons, allM, toS, allM_strs r]
theorem join_okR {x : Str} {y : D} {h : Hm} {l : List Str} (e : getL h y = some (l.map D.str)) (hl : (l.map fun p : Str => p.length).sum + l.length * x.length ≤ 16777216) (mk : Bool) : bmCall .join mk (.str x) [y] h = .ok (.str (Txt.join x l)) h := by
  show joinD (.str x) y h = _
  unfold joinD
  dsimp only
  rw [e]
  show (match allM toS (l.map D.str) with
    | some ys => if (ys.map fun p : Str => p.length).sum + ys.length * x.length ≤ big then (.ok (.str (Txt.join x ys)) h : Res D) else .stuck
    | none => .stuck) = _
  rw [allM_strs]
  exact if_pos hl
theorem eq_tx (a b : Str) (ha : PyData.canLay0 (.str a) = true) (hb : PyData.canLay0 (.str b) = true) (h : Hm) : opC .eq (.str a) (.str b) h = .ok (.bl (decide (a = b))) h := by
  have e := eq_str_any (h := h) (w := .str a) (by simpa [okD] using ha) b hb
  rw [e]
  simp
theorem ne_tx (a b : Str) (ha : PyData.canLay0 (.str a) = true) (hb : PyData.canLay0 (.str b) = true) (h : Hm) : opC .ne (.str a) (.str b) h = .ok (.bl (!decide (a = b))) h := by
  have e := ne_str_any (h := h) (w := .str a) (by simpa [okD] using ha) b hb
  rw [e]
  simp
theorem joinL_all {P : Nat → Prop} {S : List Nat} (hS : ∀ c ∈ S, P c) : ∀ {l : List (List Nat)}, (∀ p ∈ l, ∀ c ∈ p, P c) → ∀ c ∈ TL.joinL S l, P c
  | [], _ => by simp [TL.joinL]
  | [p], h => h p (List.mem_singleton.mpr rfl)
  | p :: q :: r, h => by
    show ∀ c ∈ p ++ (S ++ TL.joinL S (q :: r)), P c
    intro c hm
    rcases List.mem_append.mp hm with hm | hm
    · exact h p (List.mem_cons_self ..) c hm
    · rcases List.mem_append.mp hm with hm | hm
      · exact hS c hm
      · exact joinL_all hS (fun z hz => h z (List.mem_cons_of_mem _ hz)) c hm
theorem tx_lay (x : Str) (h : ∀ c ∈ TL.tl x, c < 128) : PyData.canLay0 (.str x) = true := by
  show x.cps.all (· < 0x110000) = true
  rw [← Array.all_toList, List.all_eq_true]
  intro c hc
  have := h c hc
  exact decide_eq_true (by omega)
theorem txt_low (t : Told) (g : t.good) : ∀ c ∈ TL.tl t.txt, c < 128 := by
  unfold Told.txt
  rw [tl_j]
  refine joinL_all (by decide) fun p hp => ?_
  obtain ⟨w, hw, rfl⟩ := List.mem_map.mp hp
  rcases List.mem_cons.mp hw with rfl | hw
  · exact wd_low t
  · obtain ⟨i, hi, rfl⟩ := List.mem_map.mp hw
    intro c hc
    have := nt_digits (t.nums_ok g i hi).1 c hc
    omega
theorem itx_low {ps : List (List Told)} (G : GoodPrg ps) {x : Option Told} (hx : x ∈ items ps) : ∀ c ∈ TL.tl (itx x), c < 128 := by
  cases x with
  | none => exact (by decide : ∀ c ∈ TL.tl (Str.ofString "clerk"), c < 128)
  | some t =>
    obtain ⟨p, hp, ht⟩ := mem_items hx
    exact txt_low t ((G.part p hp).good t ht)
theorem prog_lay {ps : List (List Told)} (G : GoodPrg ps) : PyData.canLay0 (.str (progT ps)) = true := by
  refine tx_lay _ ?_
  unfold progT
  rw [tl_j]
  refine joinL_all (by decide) fun p hp => ?_
  obtain ⟨w, hw, rfl⟩ := List.mem_map.mp hp
  obtain ⟨x, hx, rfl⟩ := List.mem_map.mp hw
  exact itx_low G hx
theorem fold_txt : ∀ (is : List Int) (w : Str), is.foldl (fun s i => s ++ " " ++ nt i) w = Txt.join " " (w :: is.map nt)
  | [], w => by
    refine TL.ext_tl ?_
    rw [tl_j]; rfl
  | i :: is, w => by
    rw [List.foldl_cons, fold_txt is]
    refine TL.ext_tl ?_
    rw [tl_j, tl_j, List.map_cons, List.map_cons, List.map_cons, List.map_cons, TL.tl_append, TL.tl_append]
    cases is with
    | nil => simp [TL.joinL]
    | cons j r => simp [TL.joinL]
theorem items_few (ps : List (List Told)) (h4 : ps.length ≤ 4) (h : ∀ p ∈ ps, p.length ≤ 120) : (items ps).length ≤ 484 := by
  have key : ∀ l : List (List Told), (∀ p ∈ l, p.length ≤ 120) → (items l).length ≤ l.length * 121 := by
    intro l
    induction l with
    | nil => intro _; exact Nat.le_refl _
    | cons p l ih =>
      intro h
      have a := ih fun q hq => h q (List.mem_cons_of_mem _ hq)
      have b := h p (List.mem_cons_self ..)
      show ((none :: p.map some) ++ items l).length ≤ _
      rw [List.length_append, List.length_cons, List.length_map, List.length_cons, Nat.add_mul]
      omega
  have := key ps h
  have : ps.length * 121 ≤ 4 * 121 := Nat.mul_le_mul_right _ h4
  omega
theorem rows_take {ps : List (List Told)} (G : GoodPrg ps) (i : Nat) : (rows (ps.take i)).length ≤ 484 := by
  unfold rows
  rw [List.length_map]
  refine items_few _ ?_ fun p hp => (G.part p (List.mem_of_mem_take hp)).len
  have := G.few
  rw [List.length_take]
  omega
theorem rows_app (a : List (List Told)) (p : List Told) : rows (a ++ [p]) = rows a ++ Str.ofString "clerk" :: p.map Told.txt := by
  simp [rows, items, itx, Function.comp_def]
theorem take_one {α : Type} {l : List α} {i : Nat} {x : α} (h : l[i]? = some x) : l.take (i + 1) = l.take i ++ [x] := by
  rw [List.take_succ, h]; rfl

/-! a good program is looked over -/
theorem is_good_ok {p : List Told} (G : GoodPart p) {t : Told} (ht : t ∈ p) (h : Hm) : F 9 [t.d, .int (p.length : Int)] h = .ok (.bl true) h := by
  have c1 : (src.prg.C 9).fn 6 = F 6 := callF (by decide)
  have hdf : ∀ i, (src.prg.C 9).df i [] = true := fun i => dfF
  obtain ⟨n1, n2⟩ := nexts_call t (n := 9) (by decide) (by decide) 0 h
  have e1 := step_of_ok t (G.good t ht) h
  unfold F runF
  rw [show src.prg.fns 9 = ⟨2, 3, b9⟩ from rfl]
  rw [if_pos (show [t.d, .int (p.length : Int)].length = 2 from rfl)]
  simp only [b9, List.map_cons, List.map_nil, List.cons_append, List.nil_append, show (3 - 2 : Nat) = 1 from rfl, List.replicate]
  have hl : 0 < p.length := List.length_pos_of_mem ht
  have hmax : ∃ m : Int, biCall .max1 false [.lst ((t.nexts 0).map .int)] h = .ok (.int m) h ∧ m ≤ (p.length : Int) ∧ True := by
    have hb : ∀ a ∈ t.nexts 0, a ≤ (p.length : Int) ∨ a ≤ 1 := fun a ha => by
      rcases mem_nexts.mp ha with e | ⟨b, e⟩
      · right; omega
      · left; exact G.skip t ht b a e
    have hne : t.nexts 0 ≠ [] := fun e => by
      have : (0 : Int) + 1 ∈ t.nexts 0 := mem_nexts.mpr (.inl rfl)
      rw [e] at this
      cases this
    have hm : ∀ l : List Int, l ≠ [] → maxI l ∈ l := by
      intro l
      induction l with
      | nil => intro z; exact absurd rfl z
      | cons x r ih =>
        intro _
        cases r with
        | nil => exact List.mem_cons_self ..
        | cons y r =>
          unfold maxI
          have := ih (by simp)
          rcases Int.le_total x (maxI (y :: r)) with c | c
          · rw [Int.max_eq_right c]; exact List.mem_cons_of_mem _ this
          · rw [Int.max_eq_left c]; exact List.mem_cons_self ..
    refine ⟨maxI (t.nexts 0), ?_, ?_, trivial⟩
    · show max1D (.lst ((t.nexts 0).map .int)) h = _
      unfold max1D
      have e : Mini.intsD (.lst ((t.nexts 0).map .int)) h = some (t.nexts 0) := by
        show Option.bind (some ((t.nexts 0).map D.int)) (allM toI) = _
        exact allM_ints _
      rw [show Mini.intsD (.lst ((t.nexts 0).map .int)) h = some (t.nexts 0) from e]
      cases hn : t.nexts 0 with
      | nil => exact absurd hn hne
      | cons _ _ => rfl
    · have := hb _ (hm _ hne)
      omega
  obtain ⟨m, h1, h2, -⟩ := hmax
  have tr : exS (src.prg.C 9) none (.try_ [.set (.one 2) (.call 6 [(.var 0)] [])] [.mk [1] none [.ret (.con (.bl false))]]) [some t.d, some (.int (p.length : Int)), none] h = .ok .next [some t.d, some (.int (p.length : Int)), some t.step] h := by
    simp -implicitDefEqProofs [exS, tryS, hdf, c1, e1, exB, evE, evEs, onE, setP, seqB, varD]
  rw [seq_step tr]
  have q2 : biCall .max2 false [.int (p.length : Int), .int 1] h = .ok (.int (if (1 : Int) > (p.length : Int) then 1 else (p.length : Int))) h := rfl
  have q3 : ¬ (1 : Int) > (p.length : Int) := by omega
  rw [if_neg q3] at q2
  generalize (t.nexts 0).map D.int = L at *
  simp -implicitDefEqProofs [n1, n2, h1, q2, h2]
theorem look_over_ok {ps : List (List Told)} (G : GoodPrg ps) (h : Hm) : F 10 [.tup (prgD ps)] h = .ok .non h := by
  have cg : (src.prg.C 10).fn 9 = F 9 := callF (by decide)
  have hdf : ∀ i, (src.prg.C 10).df i [] = true := fun i => dfF
  have h1 := G.some
  have h4 := G.few
  unfold F runF
  rw [show src.prg.fns 10 = ⟨1, 5, b10⟩ from rfl]
  rw [if_pos (show [D.tup (prgD ps)].length = 1 from rfl)]
  generalize src.prg.C 10 = C at *
  simp only [b10, List.map_cons, List.map_nil, List.cons_append, List.nil_append, show (5 - 1 : Nat) = 4 from rfl, List.replicate]
  have hlen : (prgD ps).length = ps.length := List.length_map ..
  rw [seq_step (ρ1 := [some (.tup (prgD ps)), none, none, none, none]) (h1 := h)]
  rotate_left
  · have e1 : decide ((1 : Int) ≤ (ps.length : Int)) = true := decide_eq_true (by omega)
    have e2 : decide ((ps.length : Int) ≤ 4) = true := decide_eq_true (by omega)
    generalize prgD ps = P at *
    simp -implicitDefEqProofs only [x_ite, e_bool, b_or, b_one, e_not, e_isa, e_var, var_0, bind_ok, isa_tup, notD_bl, Bool.not_true, ifD_f, e_chain, e_con, cst_int, e_bi, es_cons, es_nil, len_tup, hlen, opC_le, e1, e2, ifD_t, asB_bl, onE_ok, x_nil, Bool.false_eq_true, if_false]
  obtain ⟨ρ', h', e, x1, e1, e2⟩ := loopF_for (body := bodyF C (.one 1) w10_0) (fun i ρ h' => ∃ x1, ρ = [some (.tup (prgD ps)), x1, none, none, none] ∧ h' = h) (xs := prgD ps) (ρ := [some (.tup (prgD ps)), none, none, none, none]) (h := h) ⟨none, rfl, rfl⟩ (fun i x ρ h' hx ⟨x1, e1, e2⟩ => by
    subst e1; subst e2
    obtain ⟨p, hp, rfl⟩ := List.mem_map.mp (List.mem_of_getElem? hx)
    refine ⟨[some (.tup (prgD ps)), some (.tup (tds p)), none, none, none], h', .inl ?_, _, rfl, rfl⟩
    rw [bodyF_one]
    unfold w10_0
    generalize prgD ps = P at *
    generalize tds p = T at *
    simp -implicitDefEqProofs)
  subst e1; subst e2
  rw [seq_step (ρ1 := [some (.tup (prgD ps)), x1, none, none, none]) (h1 := h')]
  rotate_left
  · rw [x_forr]
    simp -implicitDefEqProofs only [i_seq, e_var, var_0, bind_ok, iterSeq_tup, onE_ok]
    exact e
  obtain ⟨ρ2, h2, e3, y1, y2, y3, y4, e4, e5⟩ := loopF_fold (g := none) (body := bodyF C (.tup [2, 1]) w10_2) (fun x : List Told × Nat => D.tup [.int (x.2 : Int), .tup (tds x.1)]) (fun (s : Unit) _ => s)
    (fun _ ρ h2 => ∃ y1 y2 y3 y4, (ρ = [some (.tup (prgD ps)), y1, y2, y3, y4]) ∧ h2 = h') (fun _ _ _ _ => rfl) ps.zipIdx () [some (.tup (prgD ps)), x1, none, none, none] h' ⟨_, _, _, _, rfl, rfl⟩
    (fun s ρ h2 x hm ⟨y1, y2, y3, y4, e1, e2⟩ => by
      subst e1; subst e2
      obtain ⟨p, q⟩ := x
      have hpm : p ∈ ps := by
        have hx := List.mem_zipIdx' hm
        have e9 : p = ps[q]'hx.1 := hx.2
        rw [e9]; exact List.getElem_mem _
      have Gp := G.part p hpm
      obtain ⟨ρ3, h3, e6, z3, z4, e7, e8⟩ := loopF_fold (g := none) (body := bodyF C (.tup [3, 4]) w10_1) (fun x : Told × Nat => D.tup [.int (x.2 : Int), x.1.d]) (fun (s : Unit) _ => s)
        (fun _ ρ h3 => ∃ z3 z4, (ρ = [some (.tup (prgD ps)), some (.tup (tds p)), some (.int (q : Int)), z3, z4]) ∧ h3 = h2) (fun _ _ _ _ => rfl) p.zipIdx () [some (.tup (prgD ps)), some (.tup (tds p)), some (.int (q : Int)), y3, y4] h2 ⟨_, _, rfl, rfl⟩
        (fun s ρ h3 x hm ⟨z3, z4, e1, e2⟩ => by
          subst e1; subst e2
          obtain ⟨t, i⟩ := x
          have hx := List.mem_zipIdx' hm
          have ht : t ∈ p := by
            have e9 : t = p[i]'hx.1 := hx.2
            rw [e9]; exact List.getElem_mem _
          have hi : i < p.length := hx.1
          have hlen := Gp.len
          have eg := is_good_ok Gp ht h3
          have hl : (tds p).length = p.length := List.length_map ..
          have hge : ¬ (120 : Int) ≤ (i : Int) := by omega
          refine ⟨[some (.tup (prgD ps)), some (.tup (tds p)), some (.int (q : Int)), some (.int (i : Int)), some t.d], h3, .inl ?_, _, _, rfl, rfl⟩
          rw [bodyF_tup (ρ2 := [some (.tup (prgD ps)), some (.tup (tds p)), some (.int (q : Int)), some (.int (i : Int)), some t.d]) rfl]
          unfold w10_1
          generalize prgD ps = P at *
          generalize tds p = T at *
          generalize hiz : (i : Int) = iz at *
          simp -implicitDefEqProofs [hge, hl, hdf, cg, eg])
      subst e7; subst e8
      refine ⟨[some (.tup (prgD ps)), some (.tup (tds p)), some (.int (q : Int)), z3, z4], h3, .inl ?_, _, _, _, _, rfl, rfl⟩
      rw [bodyF_tup (ρ2 := [some (.tup (prgD ps)), some (.tup (tds p)), some (.int (q : Int)), y3, y4]) rfl]
      unfold w10_2
      rw [seq_step (ρ1 := [some (.tup (prgD ps)), some (.tup (tds p)), some (.int (q : Int)), z3, z4]) (h1 := h3)]
      rotate_left
      · rw [x_forr]
        simp -implicitDefEqProofs only [i_enum, e_var, var_0, var_s, bind_ok, iterEnum_tup, onE_ok]
        rw [show enumD 0 (tds p) = p.zipIdx.map fun x => D.tup [.int (x.2 : Int), x.1.d] from enumD_map Told.d p 0]
        exact e6
      rfl)
  subst e4; subst e5
  rw [seq_step (ρ1 := [some (.tup (prgD ps)), y1, y2, y3, y4]) (h1 := h2)]
  rotate_left
  · rw [x_forr]
    simp -implicitDefEqProofs only [i_enum, e_var, var_0, bind_ok, iterEnum_tup, onE_ok]
    rw [show enumD 0 (prgD ps) = ps.zipIdx.map fun x => D.tup [.int (x.2 : Int), .tup (tds x.1)] from enumD_map (fun p => .tup (tds p)) ps 0]
    exact e3
  simp -implicitDefEqProofs

/-! numbers, steps and programs: the walks of their texts -/
theorem notin_fig {c : Nat} (h0 : 48 ≤ c) (h1 : c ≤ 57) (h : Hm) : opC .notin (.str ⟨#[c]⟩) (.str "0123456789") h = .ok (.bl false) h := by
  show Res.ok (D.bl (true ^^ !(Builtin.Str.occurrences (Str.ofString "0123456789") ⟨#[c]⟩ 0 (Str.ofString "0123456789").length 1).isEmpty)) h = _
  rw [PySem.StrLaws.found_one]
  have hc : c ∈ (Str.ofString "0123456789").cps.toList := by
    have : c = 48 ∨ c = 49 ∨ c = 50 ∨ c = 51 ∨ c = 52 ∨ c = 53 ∨ c = 54 ∨ c = 55 ∨ c = 56 ∨ c = 57 := by omega
    rcases this with rfl | rfl | rfl | rfl | rfl | rfl | rfl | rfl | rfl | rfl <;> decide +kernel
  rw [decide_eq_true hc]; rfl
theorem number_of_ok {i : Int} (h0 : 0 ≤ i) (h1 : i < 1000000000000000000000000000000000000000000000000000000000000) (h : Hm) : F 13 [.str (nt i)] h = .ok (.int i) h := by
  obtain ⟨l1, l2⟩ := nt_len h0 h1
  have hl := len_tx false (nt i) (by omega) h
  have hn := int_nt false h0 h1 h
  have hd := nt_digits h0
  rw [u13]
  generalize src.prg.C 13 = C
  have hq : evE C none q13_0 [some (.str (nt i)), none] h = .ok (.lst []) h := by
    unfold q13_0
    have := comp_maps (C := C) (elt := .var 1) (p := .one 1) (it := .chars (.var 0)) (cond := some (.cmp .notin (.var 1) (.globT 2 "0123456789"))) (own := [1]) (ρ := [some (.str (nt i)), none]) (h := h) (TL.tl (nt i)) (fun c => D.str ⟨#[c]⟩) (fun _ => false) (fun _ => .non) rfl (by
      rw [← TL.len_tl]
      show _ ≤ 16777216
      omega) (fun c hc => ⟨[some (.str (nt i)), some (.str ⟨#[c]⟩)], rfl, by
        have := notin_fig (hd c hc).1 (hd c hc).2 h
        simp [this], fun e => by cases e⟩)
    rw [show (TL.tl (nt i)).filter (fun _ => false) = [] from List.filter_eq_nil_iff.mpr fun _ _ => by simp] at this
    exact this
  have e0 : opC .ne (.lst []) (.lst []) h = .ok (.bl false) h := ne_data (.list []) (.list []) false rfl rfl (by decide +kernel)
  have e1 : (1 : Int) ≤ ((nt i).length : Int) := by omega
  have e2 : ((nt i).length : Int) ≤ 60 := by omega
  unfold b13
  refine fin0 ?_
  generalize (nt i).length = L at *
  generalize nt i = N at *
  ((first | apply seqE | apply seqT); · (simp -implicitDefEqProofs (disch := first | assumption | omega | decide) [Rules, hl, hq, e0, e1, e2]; first | done | exact ⟨rfl, rfl⟩ | rfl))
  simp -implicitDefEqProofs (disch := first | assumption | omega | decide) [Rules, hn]
theorem step_text_ok (t : Told) (g : t.good) (h : Hm) : F 11 [t.d] h = .ok (.str t.txt) h := by
  rw [u11]
  generalize src.prg.C 11 = C
  have hn := t.nums_len
  have hq : evE C none q11_0 [some t.d, none] h = .ok (.lst (t.words.map D.str)) h := by
    unfold q11_0
    have := comp_allG (C := C) (elt := .bi .strOf false [(.var 1)]) (p := .one 1) (it := .seq (.var 0)) (own := [1]) (w := none) (ρ := [some t.d, none]) (h := h) (.str t.wd :: t.nums.map D.int) (fun x => x) (fun d => match d with
      | .int i => .str (nt i)
      | d => d) (by rw [List.map_id']; rw [t.d_eq]; rfl) rfl (by rw [List.length_cons, List.length_map]; show _ ≤ 16777216; omega) (fun x hx => ⟨[some t.d, some x], rfl, by
        rcases List.mem_cons.mp hx with rfl | hx
        · have := str_tx false t.wd h
          simp [this]
        · obtain ⟨i, hi, rfl⟩ := List.mem_map.mp hx
          have gi := t.nums_ok g i hi
          have := str_nt false gi.1 gi.2 h
          simp [this]⟩)
    rw [this]
    simp [Told.words, Function.comp_def]
  have hw := words_many t
  have hs := sum_le (fun p : Str => p.length) 60 t.words (words_len t g)
  have hj := join_okR (x := " ") (y := .lst (t.words.map D.str)) (h := h) (l := t.words) rfl (by
    have c : (Str.ofString " ").length = 1 := by decide +kernel
    rw [c]
    have : t.words.length * 60 ≤ 3 * 60 := Nat.mul_le_mul_right _ hw
    omega) false
  have e : Txt.join " " t.words = t.txt := rfl
  rw [e] at hj
  have rj : recv .join (.str " ") h = true := rfl
  unfold b11
  refine fin0 ?_
  generalize t.words.map D.str = W at *
  simp -implicitDefEqProofs (disch := first | assumption | omega | decide) [Rules, hq, hj, rj]
theorem cat_ref {h : Hm} {n : Nat} {xs ys : List D} (e : h[n]? = some (.lst xs)) (c : xs.length + ys.length ≤ 16777216) : opB .add true (.ref n) (.lst ys) h = .ok (.ref h.length) (h ++ [.lst (xs ++ ys)]) := by
  have e2 : getW h (.ref n) = some xs := getL_ref e
  show (match Bop.add, getW h (.ref n), getW h (.lst ys) with
    | .add, some a, some b => newL true (a ++ b) h
    | _, _, _ => .stuck) = _
  rw [e2]
  exact newL_node _ (by rw [List.length_append]; exact c)
theorem program_text_ok {ps : List (List Told)} (G : GoodPrg ps) (h : Hm) : F 12 [.tup (prgD ps)] h = .ok (.str (progT ps)) h := by
  have cs : (src.prg.C 12).fn 11 = F 11 := callF (by decide)
  have hdf : ∀ i, (src.prg.C 12).df i [] = true := fun i => dfF
  rw [u12]
  generalize src.prg.C 12 = C at *
  unfold b12
  obtain ⟨ρ', h', e, g, x2, x3, e1, e2⟩ := loopF_for (body := bodyF C (.one 2) w12_0)
    (fun i ρ h' => ∃ g x2 x3, ρ = [some (.tup (prgD ps)), some (.ref (h ++ g).length), x2, x3] ∧ h' = (h ++ g) ++ [.lst ((rows (ps.take i)).map D.str)])
    (xs := prgD ps) (ρ := [some (.tup (prgD ps)), some (.ref h.length), none, none]) (h := h ++ [.lst []]) ⟨[], none, none, by rw [List.append_nil], by rw [List.append_nil]; rfl⟩
    (fun i x ρ h' hx ⟨g, x2, x3, e1, e2⟩ => by
      subst e1; subst e2
      rw [List.getElem?_map] at hx
      obtain ⟨p, hp, rfl⟩ := Option.map_eq_some_iff.mp hx
      have Gp := G.part p (List.mem_of_getElem? hp)
      have rl := rows_take G i
      have tk := rows_app (ps.take i) p
      rw [← take_one hp] at tk
      have rn := rows_take G (i + 1)
      generalize hH : h ++ g = H
      generalize rows (ps.take i) = R at *
      have rc := recv_last H (R.map D.str)
      have ap := app_last (h := H) (R.map D.str) false (.str "clerk") (by rw [List.length_map]; omega)
      have hq : ∀ h2 x3, evE C none q12_0 [some (.tup (prgD ps)), some (.ref H.length), some (.tup (tds p)), x3] h2 = .ok (.lst (p.map fun t => D.str t.txt)) h2 := fun h2 x3 => by
        unfold q12_0
        refine comp_allG (w := none) p Told.d (fun t => .str t.txt) rfl rfl (by have := Gp.len; show _ ≤ 16777216; omega) fun t ht => ⟨[some (.tup (prgD ps)), some (.ref H.length), some (.tup (tds p)), some t.d], rfl, ?_⟩
        have es := step_text_ok t (Gp.good t ht) h2
        generalize prgD ps = P at *
        generalize tds p = T at *
        simp -implicitDefEqProofs (disch := first | assumption | omega | decide) [Rules, hdf, cs, es]
      have ct := cat_ref (h := H ++ [.lst (R.map D.str ++ [.str "clerk"])]) (ys := p.map fun t => D.str t.txt) (last_node H _) (by
        have := Gp.len
        rw [List.length_append, List.length_map, List.length_map]
        show R.length + 1 + p.length ≤ _
        omega)
      have fin : R.map D.str ++ [.str "clerk"] ++ (p.map fun t => D.str t.txt) = (rows (ps.take (i + 1))).map D.str := by
        rw [tk]
        simp [Function.comp_def]
      rw [fin] at ct
      refine ⟨[some (.tup (prgD ps)), some (.ref (H ++ [Node.lst (R.map D.str ++ [.str "clerk"])]).length), some (.tup (tds p)), x3], _, .inl ?_, g ++ [.lst (R.map D.str ++ [.str "clerk"])], some (.tup (tds p)), x3, by rw [← List.append_assoc, hH], by rw [← List.append_assoc, hH]⟩
      rw [bodyF_one]
      unfold w12_0
      generalize (rows (ps.take (i + 1))).map D.str = R1 at *
      generalize prgD ps = P at *
      generalize tds p = T at *
      generalize (p.map fun t => D.str t.txt) = PT at *
      generalize R.map D.str = R0 at *
      simp -implicitDefEqProofs (disch := first | assumption | omega | decide) [Rules, rc, ap, hq, ct])
  subst e1; subst e2
  rw [show (prgD ps).length = ps.length from List.length_map .., List.take_length] at e
  have jn := join_okR (x := "\n") (y := .ref (h ++ g).length) (h := (h ++ g) ++ [.lst ((rows ps).map D.str)]) (l := rows ps) (getL_ref (last_node _ _)) (join_rows G) false
  have rj : recv .join (.str "\n") ((h ++ g) ++ [.lst ((rows ps).map D.str)]) = true := rfl
  have ep : Txt.join "\n" (rows ps) = progT ps := rfl
  rw [ep] at jn
  refine finG (g := g ++ [.lst ((rows ps).map D.str)]) rfl ?_
  rw [← List.append_assoc]
  ((first | apply seqE | apply seqT); · (simp -implicitDefEqProofs (disch := first | assumption | omega | decide) [Rules]; first | done | exact ⟨rfl, rfl⟩ | rfl))
  refine seqE (for_of (g := none) rfl e) ?_
  clear e
  generalize (rows ps).map D.str = R at *
  generalize prgD ps = P at *
  generalize progT ps = T at *
  generalize h ++ g = H at *
  simp -implicitDefEqProofs (disch := first | assumption | omega | decide) [Rules, rj, jn]

/-! the law's own text of a program -/
theorem cut_td (mk : Bool) (t : Told) (h : Hm) : cutOp mk t.d (some 1) none h = .ok (.tup (t.nums.map D.int)) h := by
  rw [t.d_eq]
  show Res.ok (D.tup (cutD (D.str t.wd :: t.nums.map D.int) (some ((1 : Nat) : Int)) none)) h = _
  rw [cutD_drop]; rfl
theorem row_loop {C : Calls} {a0 a1 a2 a3 x5 : Option D} (t : Told) (g : t.good) (h : Hm) : ∃ y5, loopF none (bodyF C (.one 5) w0_0) (t.nums.map D.int) [a0, a1, a2, a3, some (.str t.wd), x5] h = .ok .next [a0, a1, a2, a3, some (.str t.txt), y5] h := by
  obtain ⟨ρ', h', e, y5, s, e1, e2, e3, e4⟩ := loopF_for (body := bodyF C (.one 5) w0_0)
    (fun i ρ h' => ∃ y5 s, ρ = [a0, a1, a2, a3, some (.str s), y5] ∧ h' = h ∧ s = (t.nums.take i).foldl (fun s i => s ++ " " ++ nt i) t.wd ∧ s.length ≤ 5 + 61 * i)
    (xs := t.nums.map D.int) (ρ := [a0, a1, a2, a3, some (.str t.wd), x5]) (h := h) ⟨x5, t.wd, rfl, rfl, rfl, by have := wd_len t; omega⟩
    (fun i x ρ h' hx ⟨y5, s, e1, e2, e3, e4⟩ => by
      subst e1; subst e2
      rw [List.getElem?_map] at hx
      obtain ⟨n, hn, rfl⟩ := Option.map_eq_some_iff.mp hx
      have gn := t.nums_ok g n (List.mem_of_getElem? hn)
      have es := str_nt false gn.1 gn.2 h'
      have hi : i < t.nums.length := (List.getElem?_eq_some_iff.mp hn).1
      have h2 := t.nums_len
      have ln := (nt_len gn.1 gn.2).1
      have c : (Str.ofString " ").length = 1 := by decide +kernel
      have l1 : (s ++ Str.ofString " ").length = s.length + 1 := by rw [TL.len_tl, TL.tl_append, List.length_append, ← TL.len_tl, ← TL.len_tl, c]
      have l2 : (s ++ Str.ofString " " ++ nt n).length = s.length + 1 + (nt n).length := by rw [TL.len_tl, TL.tl_append, List.length_append, ← TL.len_tl, ← TL.len_tl, l1]
      have a1' : opB .add false (.str s) (.str " ") h' = .ok (.str (s ++ Str.ofString " ")) h' := if_pos (by
        show _ ≤ 16777216
        rw [c]; omega)
      have a2' : opB .add false (.str (s ++ Str.ofString " ")) (.str (nt n)) h' = .ok (.str (s ++ Str.ofString " " ++ nt n)) h' := if_pos (by
        show _ ≤ 16777216
        rw [l1]; omega)
      refine ⟨[a0, a1, a2, a3, some (.str (s ++ Str.ofString " " ++ nt n)), some (.int n)], h', .inl ?_, _, _, rfl, rfl, by rw [take_one hn, List.foldl_append, ← e3]; rfl, by rw [l2]; omega⟩
      rw [bodyF_one]
      unfold w0_0
      generalize s ++ Str.ofString " " ++ nt n = s2 at *
      generalize s ++ Str.ofString " " = s1 at *
      generalize nt n = N at *
      simp -implicitDefEqProofs (disch := first | assumption | omega | decide) [Rules, es, a1', a2'])
  subst e1; subst e2
  rw [List.length_map, List.take_length, fold_txt] at e3
  rw [show s = t.txt from e3] at e
  exact ⟨y5, e⟩
theorem shown_ok {ps : List (List Told)} (G : GoodPrg ps) (h : Hm) : F 0 [.tup (prgD ps)] h = .ok (.str (progT ps)) h := by
  rw [u0]
  generalize src.prg.C 0 = C at *
  unfold b0
  have jn := join_okR (x := "\n") (y := .ref h.length) (h := h ++ [.lst ((rows ps).map D.str)]) (l := rows ps) (getL_ref (last_node _ _)) (join_rows G) false
  have rj : recv .join (.str "\n") (h ++ [.lst ((rows ps).map D.str)]) = true := rfl
  have ep : Txt.join "\n" (rows ps) = progT ps := rfl
  rw [ep] at jn
  obtain ⟨ρ', h', e, x2, x3, x4, x5, e1, e2⟩ := loopF_for (body := bodyF C (.one 2) w0_2)
    (fun i ρ h' => ∃ x2 x3 x4 x5, ρ = [some (.tup (prgD ps)), some (.ref h.length), x2, x3, x4, x5] ∧ h' = h ++ [.lst ((rows (ps.take i)).map D.str)])
    (xs := prgD ps) (ρ := [some (.tup (prgD ps)), some (.ref h.length), none, none, none, none]) (h := h ++ [.lst []]) ⟨none, none, none, none, rfl, rfl⟩
    (fun i x ρ h' hx ⟨x2, x3, x4, x5, e1, e2⟩ => by
      subst e1; subst e2
      rw [List.getElem?_map] at hx
      obtain ⟨p, hp, rfl⟩ := Option.map_eq_some_iff.mp hx
      have Gp := G.part p (List.mem_of_getElem? hp)
      have rl := rows_take G i
      have tk := rows_app (ps.take i) p
      rw [← take_one hp] at tk
      have rn := rows_take G (i + 1)
      rw [tk]
      generalize rows (ps.take i) = R at *
      have hlen := Gp.len
      have rc := recv_last h (R.map D.str)
      have ap := app_last (h := h) (R.map D.str) false (.str "clerk") (by rw [List.length_map]; omega)
      obtain ⟨ρ2, h2, e3, y3, y4, y5, e4, e5⟩ := loopF_for (body := bodyF C (.one 3) w0_1)
        (fun j ρ h' => ∃ y3 y4 y5, ρ = [some (.tup (prgD ps)), some (.ref h.length), some (.tup (tds p)), y3, y4, y5] ∧ h' = h ++ [.lst ((R ++ Str.ofString "clerk" :: (p.take j).map Told.txt).map D.str)])
        (xs := tds p) (ρ := [some (.tup (prgD ps)), some (.ref h.length), some (.tup (tds p)), x3, x4, x5]) (h := h ++ [.lst (R.map D.str ++ [.str "clerk"])]) ⟨x3, x4, x5, rfl, by rw [List.take_zero, List.map_append]; rfl⟩
        (fun j x ρ h' hx ⟨y3, y4, y5, e1, e2⟩ => by
          subst e1; subst e2
          rw [List.getElem?_map] at hx
          obtain ⟨t, ht, rfl⟩ := Option.map_eq_some_iff.mp hx
          have g := Gp.good t (List.mem_of_getElem? ht)
          have fin : (R ++ Str.ofString "clerk" :: (p.take j).map Told.txt).map D.str ++ [.str t.txt] = (R ++ Str.ofString "clerk" :: (p.take (j + 1)).map Told.txt).map D.str := by
            rw [take_one ht]
            simp
          have hj : (p.take j).length ≤ 120 := by rw [List.length_take]; omega
          have lz : ((R ++ Str.ofString "clerk" :: (p.take j).map Told.txt).map D.str).length < 16777216 := by
            rw [List.length_map, List.length_append, List.length_cons, List.length_map]
            omega
          rw [← fin]
          generalize (R ++ Str.ofString "clerk" :: (p.take j).map Told.txt).map D.str = R1 at *
          have rc := recv_last h R1
          have ap := app_last (h := h) R1 false (.str t.txt) lz
          obtain ⟨z5, rl⟩ := row_loop (C := C) (a0 := some (.tup (prgD ps))) (a1 := some (.ref h.length)) (a2 := some (.tup (tds p))) (a3 := some t.d) (x5 := y5) t g (h ++ [.lst R1])
          have i0 : ixD t.d (.int 0) (h ++ [.lst R1]) = .ok (.str t.wd) (h ++ [.lst R1]) := t.ix0 _
          have ct := cut_td false t (h ++ [.lst R1])
          refine ⟨[some (.tup (prgD ps)), some (.ref h.length), some (.tup (tds p)), some t.d, some (.str t.txt), z5], _, .inl ?_, _, _, _, rfl, rfl⟩
          rw [bodyF_one]
          unfold w0_1
          generalize prgD ps = P at *
          generalize tds p = T at *
          generalize t.d = td at *
          refine seqT (ρ1 := [some (.tup P), some (.ref h.length), some (.tup T), some td, some (.str t.wd), y5]) (h1 := h ++ [.lst R1]) ?_ ?_
          · simp -implicitDefEqProofs (disch := first | assumption | omega | decide) [Rules, i0]
          refine seqT (for_of (g := none) ?_ rl) ?_
          · (simp -implicitDefEqProofs (disch := first | assumption | omega | decide) [Rules, ct]; first | done | exact ⟨rfl, rfl⟩ | rfl)
          · simp -implicitDefEqProofs (disch := first | assumption | omega | decide) [Rules, rc, ap])
      subst e4; subst e5
      rw [show (tds p).length = p.length from List.length_map .., List.take_length] at e3
      refine ⟨[some (.tup (prgD ps)), some (.ref h.length), some (.tup (tds p)), y3, y4, y5], _, .inl ?_, _, _, _, _, rfl, rfl⟩
      rw [bodyF_one]
      unfold w0_2
      refine seqT (ρ1 := [some (.tup (prgD ps)), some (.ref h.length), some (.tup (tds p)), x3, x4, x5]) (h1 := h ++ [.lst (R.map D.str ++ [.str "clerk"])]) ?_ ?_
      · generalize prgD ps = P at *
        generalize tds p = T at *
        generalize R.map D.str = R0 at *
        simp -implicitDefEqProofs (disch := first | assumption | omega | decide) [Rules, rc, ap]
      refine seqT (for_of (g := none) rfl e3) ?_
      rw [x_nil])
  subst e1; subst e2
  rw [show (prgD ps).length = ps.length from List.length_map .., List.take_length] at e
  refine finG (g := [.lst ((rows ps).map D.str)]) rfl ?_
  ((first | apply seqE | apply seqT); · (simp -implicitDefEqProofs (disch := first | assumption | omega | decide) [Rules]; first | done | exact ⟨rfl, rfl⟩ | rfl))
  refine seqE (for_of (g := none) rfl e) ?_
  clear e
  generalize (rows ps).map D.str = R at *
  generalize prgD ps = P at *
  generalize progT ps = T at *
  simp -implicitDefEqProofs (disch := first | assumption | omega | decide) [Rules, rj, jn]

/-! the text is read: the heap meanwhile -/
def refs (b n : Nat) : List D := (List.range' b n).map D.ref
theorem refs_snoc (b n : Nat) : refs b (n + 1) = refs b n ++ [.ref (b + n)] := by
  unfold refs
  rw [List.range'_1_concat, List.map_append]; rfl
theorem refs_len (b n : Nat) : (refs b n).length = n := by simp [refs]
def ndT (p : List Told) : Node := .lst (tds p)
def rdH (h : Hm) (s : List (List Told)) : Hm := (h ++ [.lst (refs (h.length + 1) s.length)]) ++ s.map ndT
theorem rdH_top (h : Hm) (s : List (List Told)) : (rdH h s)[h.length]? = some (.lst (refs (h.length + 1) s.length)) := at_left (last_node h _)
theorem rdH_at (h : Hm) (s : List (List Told)) {k : Nat} {p : List Told} (e : s[k]? = some p) : (rdH h s)[h.length + 1 + k]? = some (.lst (tds p)) := by
  have := at_app (h ++ [Node.lst (refs (h.length + 1) s.length)]) (s.map ndT) k
  rw [List.length_append, List.length_singleton] at this
  unfold rdH
  rw [this, List.getElem?_map, e]; rfl
theorem rdH_len (h : Hm) (s : List (List Told)) : (rdH h s).length = h.length + 1 + s.length := by simp [rdH]; omega
theorem rdH_clerk (h : Hm) (s : List (List Told)) : (rdH h s ++ [Node.lst []]).set h.length (Node.lst (refs (h.length + 1) s.length ++ [D.ref (rdH h s).length])) = rdH h (grow s none) := by
  rw [rdH_len, ← refs_snoc]
  unfold rdH
  rw [List.append_assoc, List.append_assoc, set_app0]
  show _ = (h ++ [.lst (refs (h.length + 1) (s ++ [[]]).length)]) ++ (s ++ [[]]).map ndT
  rw [List.length_append, List.map_append, List.append_assoc]
  rfl
theorem rdH_step (h : Hm) (s : List (List Told)) (q : List Told) : ∃ A : Hm, A.length = h.length + 1 + s.length ∧ ∀ q, rdH h (s ++ [q]) = A ++ [.lst (tds q)] := by
  refine ⟨(h ++ [.lst (refs (h.length + 1) (s.length + 1))]) ++ s.map ndT, by simp; omega, fun q => ?_⟩
  unfold rdH
  rw [List.length_append, List.map_append, ← List.append_assoc]
  rfl
theorem view_refs {H : Hm} : ∀ (s : List (List Told)) (b : Nat), (∀ k p, s[k]? = some p → H[b + k]? = some (.lst (tds p))) → viewPs (look H 2) (refs b s.length) = some (s.map fun p => .list (pds (tds p)))
  | [], _, _ => rfl
  | p :: s, b, h => by
    have ih := view_refs s (b + 1) fun k q e => by
      have := h (k + 1) q e
      rwa [show b + (k + 1) = b + 1 + k by omega] at this
    have h0 := h 0 p rfl
    rw [Nat.add_zero] at h0
    have e1 : refs b (p :: s).length = .ref b :: refs (b + 1) s.length := rfl
    have e2 : look H 2 b = some (.list (pds (tds p))) := by
      show (match H[b]? with
        | some (.lst xs) => (viewPs (look H 1) xs).map PyData.list
        | _ => none) = _
      rw [h0]
      have : viewPs (look H 1) (tds p) = some (pds (tds p)) := viewPs_plain (okDs_plain (okDs_map (k := 60) _ _ fun t _ => t.ok60))
      show (viewPs (look H 1) (tds p)).map PyData.list = _
      rw [this]; rfl
    rw [e1]
    show (match viewP (look H 2) (.ref b), viewPs (look H 2) (refs (b + 1) s.length) with
      | some d, some ds => some (d :: ds)
      | _, _ => none) = _
    rw [ih, show viewP (look H 2) (.ref b) = look H 2 b from rfl, e2]
    rfl
theorem parts_some {h : Hm} {s : List (List Told)} (hs : s ≠ []) : opC .eq (.ref h.length) (.lst []) (rdH h s) = .ok (.bl false) (rdH h s) := by
  have v : view (rdH h s) (.ref h.length) = some (pd (.lst (s.map fun p => D.lst (tds p)))) := by
    show look (rdH h s) 3 h.length = _
    show (match (rdH h s)[h.length]? with
      | some (.lst xs) => (viewPs (look (rdH h s) 2) xs).map PyData.list
      | _ => none) = _
    rw [rdH_top]
    show (viewPs (look (rdH h s) 2) (refs (h.length + 1) s.length)).map PyData.list = _
    rw [view_refs s (h.length + 1) fun k p e => rdH_at h s e]
    have : ∀ s : List (List Told), (s.map fun p => PyData.list (pds (tds p))) = pds (s.map fun p => D.lst (tds p)) := by
      intro s
      induction s with
      | nil => rfl
      | cons p s ih => rw [List.map_cons, List.map_cons, ih]; rfl
    rw [this]; rfl
  have ok : okD 60 (.lst (s.map fun p => D.lst (tds p))) = true := by
    have : okDs 59 (s.map fun p => D.lst (tds p)) = true := okDs_map _ _ fun p _ => by
      have : okDs 58 (tds p) = true := okDs_map _ _ fun t _ => okD_mono (by decide) t.ok
      simp only [okD, this]; rfl
    simp only [okD, this]; rfl
  rw [opC_eq_of v (y := .list []) rfl (okD_shaped ok (by decide)) rfl]
  cases s with
  | nil => exact absurd rfl hs
  | cons p s => rfl
def wgt (s : List (List Told)) : Nat := (s.map fun p => p.length).sum + s.length
theorem wgt_app (s : List (List Told)) (p : List Told) : wgt (s ++ [p]) = wgt s + p.length + 1 := by
  simp [wgt]; omega
theorem grow_w : ∀ (l : List (Option Told)) (s : List (List Told)), wgt (l.foldl grow s) ≤ wgt s + 2 * l.length
  | [], _ => Nat.le_refl _
  | x :: l, s => by
    have ih := grow_w l (grow s x)
    have h1 : wgt (grow s x) ≤ wgt s + 2 := by
      cases x with
      | none =>
        show wgt (s ++ [[]]) ≤ _
        rw [wgt_app]; simp
      | some t =>
        by_cases hs : s = []
        · subst hs; simp [grow, wgt]
        · rw [← List.dropLast_concat_getLast hs, grow_some, wgt_app, wgt_app, List.length_append]
          simp
          omega
    rw [List.foldl_cons, List.length_cons]
    omega
theorem refs_prg (s : List (List Told)) (b : Nat) : ((List.range' b s.length).map fun k => D.tup (tds (s.getD (k - b) []))) = prgD s := by
  refine List.ext_getElem (by simp) fun i h1 h2 => ?_
  rw [List.length_map, List.length_range'] at h1
  rw [List.getElem_map, List.getElem_map, List.getElem_range', List.getD_eq_getElem?_getD, show b + 1 * i - b = i by omega, List.getElem?_eq_getElem h1]
  rfl
def wds : Option Told → List Str
  | none => ["clerk"]
  | some t => t.words
theorem item_split {x : Option Told} (g : ∀ t, x = some t → t.good) : Txt.split (itx x) " " = wds x := by
  cases x with
  | some t => exact txt_split t (g t rfl)
  | none =>
    have := TL.split_join (y := " ") (s := 32) (S := []) (by decide +kernel) (by decide +kernel) (parts := ["clerk"]) (by simp) (by decide +kernel)
    exact this

/-! the text is read: the walk -/
theorem cat_llN (xs ys : List D) (c : xs.length + ys.length ≤ 16777216) (h : Hm) : opB .add false (.lst xs) (.lst ys) h = .ok (.lst (xs ++ ys)) h := cat_ll xs ys c
theorem read_loop {C : Calls} (cn : C.fn 13 = F 13) (hdf : ∀ i, C.df i [] = true) {ps : List (List Told)} (G : GoodPrg ps) (h : Hm) : ∃ x2 x3,
    loopF none (bodyF C (.one 2) w14_0) ((rows ps).map D.str) [some (.str (progT ps)), some (.ref h.length), none, none, none, none, none] (h ++ [.lst []]) = .ok .next [some (.str (progT ps)), some (.ref h.length), x2, x3, none, none, none] (rdH h ps) := by
  obtain ⟨ρ', h', e, x2, x3, e1, e2⟩ := loopF_for (body := bodyF C (.one 2) w14_0)
    (fun i ρ h' => ∃ x2 x3, ρ = [some (.str (progT ps)), some (.ref h.length), x2, x3, none, none, none] ∧ h' = rdH h (((items ps).take i).foldl grow []))
    (xs := (rows ps).map D.str) (ρ := [some (.str (progT ps)), some (.ref h.length), none, none, none, none, none]) (h := h ++ [.lst []]) ⟨none, none, rfl, by simp [rdH, refs]⟩
    (fun i x ρ h' hx ⟨x2, x3, e1, e2⟩ => by
      subst e1; subst e2
      unfold rows at hx
      rw [List.getElem?_map, List.getElem?_map] at hx
      obtain ⟨r, hr, rfl⟩ := Option.map_eq_some_iff.mp hx
      obtain ⟨y, hy, rfl⟩ := Option.map_eq_some_iff.mp hr
      have gy : ∀ t, y = some t → t.good := fun t e => by
        subst e
        obtain ⟨p, hp, ht⟩ := mem_items (List.mem_of_getElem? hy)
        exact (G.part p hp).good t ht
      have hw := grow_w ((items ps).take i) []
      have hil := items_len G
      have hwl : wgt (((items ps).take i).foldl grow []) ≤ 968 := by
        rw [List.length_take] at hw
        have : wgt [] = 0 := rfl
        omega
      have tk := grow_take hy
      have ga := fun t (e : y = some t) => grow_at (ps := ps) G.some (i := i) (t := t) (by rw [hy, e])
      rw [tk]
      have sp := item_split gy
      have il : (itx y).length ≤ 183 := by
        cases y with
        | none => decide +kernel
        | some t => exact txt_len t (gy t rfl)
      have wl : (wds y).length ≤ 3 := by
        cases y with
        | none => decide +kernel
        | some t => exact words_many t
      have ylow := tx_lay _ (itx_low G (List.mem_of_getElem? hy))
      generalize ((items ps).take i).foldl grow [] = s at *
      have sp2 := fun h2 => split_okR sp (by decide +kernel) (by omega) (by omega) false h2
      have eqc := fun h2 => eq_tx (itx y) "clerk" ylow (by decide +kernel) h2
      generalize progT ps = T at *
      refine ⟨[some (.str T), some (.ref h.length), some (.str (itx y)), some (.lst ((wds y).map D.str)), none, none, none], rdH h (grow s y), .inl ?_, _, _, rfl, rfl⟩
      rw [bodyF_one]
      unfold w14_0
      have rs : ∀ h2, recv .split (.str (itx y)) h2 = true := fun _ => rfl
      refine seqT (ρ1 := [some (.str T), some (.ref h.length), some (.str (itx y)), some (.lst ((wds y).map D.str)), none, none, none]) (h1 := rdH h s) ?_ ?_
      · generalize itx y = I at *
        generalize (wds y).map D.str = W at *
        simp -implicitDefEqProofs (disch := first | assumption | omega | decide) [Rules, rs, sp2]
      cases y with
      | none =>
        have hs : s.length < 16777216 := by unfold wgt at hwl; omega
        have r0 : recv .append (.ref h.length) (rdH h s) = true := recv_ref (rdH_top h s)
        have r1 : recv .append (.ref h.length) (rdH h s ++ [.lst []]) = true := recv_ref (at_left (rdH_top h s))
        have ap := append_ref false (.ref (rdH h s).length) (at_left (g := [Node.lst []]) (rdH_top h s)) (by rw [refs_len]; exact hs)
        rw [rdH_clerk] at ap
        have ec := eqc (rdH h s)
        rw [show decide (itx none = Str.ofString "clerk") = true from rfl] at ec
        generalize itx none = I at *
        generalize (wds none).map D.str = W at *
        generalize rdH h (grow s none) = H2 at *
        generalize rdH h s = H1 at *
        simp -implicitDefEqProofs (disch := first | assumption | omega | decide) [Rules, ec, r0, r1, ap]
      | some t =>
        have g := gy t rfl
        obtain ⟨s0, q, es⟩ := ga t rfl
        subst es
        rw [grow_some]
        have pe := parts_some (h := h) (s := s0 ++ [q]) (by simp)
        rw [wgt_app] at hwl
        have tn := t.nums_len
        obtain ⟨A, hA, hq⟩ := rdH_step h s0 q
        have rt := rdH_top h (s0 ++ [q])
        rw [List.length_append, show [q].length = 1 from rfl, refs_snoc, ← hA] at rt
        rw [hq] at pe rt
        rw [hq, hq]
        have ec := eqc (A ++ [.lst (tds q)])
        rw [show decide (itx (some t) = Str.ofString "clerk") = false from decide_eq_false (txt_clerk t)] at ec
        have ix : ixD (.ref h.length) (.int (-1)) (A ++ [.lst (tds q)]) = .ok (.ref A.length) (A ++ [.lst (tds q)]) := by
          unfold ixD
          dsimp only
          rw [show getS (A ++ [Node.lst (tds q)]) (.ref h.length) = _ from getL_ref rt]
          dsimp only
          rw [atI_neg1]
        have rc := recv_last A (tds q)
        have ap := app_last (h := A) (tds q) false t.d (by rw [List.length_map]; omega)
        rw [tds_app] at ap
        have hc : evE C none q14_0 [some (.str T), some (.ref h.length), some (.str (itx (some t))), some (.lst (t.words.map D.str)), none, none, none] (A ++ [.lst (tds q)]) = .ok (.lst (t.nums.map D.int)) (A ++ [.lst (tds q)]) := by
          unfold q14_0
          have ct : cutOp false (.lst (t.words.map D.str)) (some 1) none (A ++ [.lst (tds q)]) = .ok (.lst (t.nums.map fun i => D.str (nt i))) (A ++ [.lst (tds q)]) := by
            show newL false (cutD (t.words.map D.str) (some ((1 : Nat) : Int)) none) _ = _
            rw [cutD_drop, show (t.words.map D.str).drop 1 = (t.nums.map fun i => D.str (nt i)) by simp [Told.words, Function.comp_def]]
            exact newL_pure _ (by rw [List.length_map]; show _ ≤ 16777216; omega)
          refine comp_allG (w := none) t.nums (fun i => D.str (nt i)) D.int ?_ rfl (by show _ ≤ 16777216; omega) fun n hn => ⟨[some (.str T), some (.ref h.length), some (.str (itx (some t))), some (.lst (t.words.map D.str)), some (.str (nt n)), none, none], rfl, ?_⟩
          · generalize t.words.map D.str = W at *
            generalize (t.nums.map fun i => D.str (nt i)) = N at *
            simp [ct]
          · have gn := t.nums_ok g n hn
            have en := number_of_ok gn.1 gn.2 (A ++ [.lst (tds q)])
            generalize nt n = N at *
            generalize t.words.map D.str = W at *
            generalize itx (some t) = I at *
            simp [hdf, cn, en]
        have i0 : ixD (.lst (t.words.map D.str)) (.int 0) (A ++ [.lst (tds q)]) = .ok (.str t.wd) (A ++ [.lst (tds q)]) := ix_lst _ _ _ (atI_nat (j := 0) rfl)
        have ca := cat_llN [.str t.wd] (t.nums.map D.int) (by rw [List.length_map, show [D.str t.wd].length = 1 from rfl]; omega) (A ++ [.lst (tds q)])
        have td : D.tup ([.str t.wd] ++ t.nums.map D.int) = t.d := t.d_eq.symm
        have tp : biCall .tupOf false [.lst ([.str t.wd] ++ t.nums.map D.int)] (A ++ [.lst (tds q)]) = .ok t.d (A ++ [.lst (tds q)]) := by rw [← td]; rfl
        rw [show wds (some t) = t.words from rfl]
        generalize [D.str t.wd] ++ t.nums.map D.int = L1 at *
        generalize t.nums.map D.int = L0 at *
        generalize t.words.map D.str = W at *
        generalize itx (some t) = I at *
        generalize tds (q ++ [t]) = Q1 at *
        generalize tds q = Q0 at *
        generalize t.d = td at *
        generalize t.wd = wd at *
        simp -implicitDefEqProofs (disch := first | assumption | omega | decide) [Rules, ec, pe, ix, rc, hc, i0, ca, tp, ap])
  subst e1; subst e2
  rw [List.length_map, show (rows ps).length = (items ps).length from List.length_map .., List.take_length, grow_all, List.nil_append] at e
  exact ⟨x2, x3, e⟩
theorem read_ok {ps : List (List Told)} (G : GoodPrg ps) (h : Hm) : F 14 [.str (progT ps)] h = .ok (.tup (prgD ps)) h := by
  have cn : (src.prg.C 14).fn 13 = F 13 := callF (by decide)
  have cl : (src.prg.C 14).fn 10 = F 10 := callF (by decide)
  have cp : (src.prg.C 14).fn 12 = F 12 := callF (by decide)
  have hdf : ∀ i, (src.prg.C 14).df i [] = true := fun i => dfF
  rw [u14]
  generalize src.prg.C 14 = C at *
  unfold b14
  obtain ⟨x2, x3, e⟩ := read_loop cn hdf G h
  have h4 := G.few
  have hq : ∀ x2 x3, evE C none q14_1 [some (.str (progT ps)), some (.ref h.length), x2, x3, none, none, none] (rdH h ps) = .ok (.lst (prgD ps)) (rdH h ps) := fun x2 x3 => by
    unfold q14_1
    rw [← refs_prg ps (h.length + 1)]
    refine comp_allG (w := some (h.length, refs (h.length + 1) ps.length)) (List.range' (h.length + 1) ps.length) D.ref (fun k => D.tup (tds (ps.getD (k - (h.length + 1)) []))) ?_ (guard_ref (rdH_top h ps)) (by rw [List.length_range']; show _ ≤ 16777216; omega) fun k hk => ⟨[some (.str (progT ps)), some (.ref h.length), x2, x3, none, none, some (.ref k)], rfl, ?_⟩
    · rw [i_seq, show evE C none (.var 1) [some (.str (progT ps)), some (.ref h.length), x2, x3, none, none, none] (rdH h ps) = .ok (.ref h.length) (rdH h ps) from rfl, bind_ok, iterSeq_ref (rdH_top h ps)]
      rfl
    · obtain ⟨h1, h2⟩ := List.mem_range'_1.mp hk
      have hk2 : k - (h.length + 1) < ps.length := by omega
      have ep : ps[k - (h.length + 1)]? = some (ps.getD (k - (h.length + 1)) []) := by
        rw [List.getD_eq_getElem?_getD, List.getElem?_eq_getElem hk2]; rfl
      have at1 := rdH_at h ps ep
      rw [show h.length + 1 + (k - (h.length + 1)) = k by omega] at at1
      have tr := tup_ref false at1
      generalize tds (ps.getD (k - (h.length + 1)) []) = T at *
      generalize rdH h ps = H at *
      simp [tr]
  have el := look_over_ok G (rdH h ps)
  have et := program_text_ok G (rdH h ps)
  have en := ne_tx (progT ps) (progT ps) (prog_lay G) (prog_lay G) (rdH h ps)
  rw [decide_eq_true (rfl : progT ps = progT ps)] at en
  have rs : ∀ h2, recv .split (.str (progT ps)) h2 = true := fun _ => rfl
  have pl := prog_len G
  have rl : (rows ps).length ≤ 484 := by
    have := items_len G
    rw [show (rows ps).length = (items ps).length from List.length_map ..]
    exact this
  have sp := fun h2 => split_okR (prog_split G) (by decide +kernel) (by omega) (by omega) false h2
  refine finG (g := [.lst (refs (h.length + 1) ps.length)] ++ ps.map ndT) (prg_isP ps) ?_
  rw [← List.append_assoc, show (h ++ [Node.lst (refs (h.length + 1) ps.length)]) ++ ps.map ndT = rdH h ps from rfl]
  have pp := prg_isP ps
  have sp1 := sp (h ++ [.lst []])
  have rs1 := rs (h ++ [.lst []])
  generalize (rows ps).map D.str = R at *
  generalize progT ps = T at *
  ((first | apply seqE | apply seqT); · (simp -implicitDefEqProofs (disch := first | assumption | omega | decide) [Rules]; first | done | exact ⟨rfl, rfl⟩ | rfl))
  ((first | apply seqE | apply seqT); · (simp -implicitDefEqProofs (disch := first | assumption | omega | decide) [Rules]; first | done | exact ⟨rfl, rfl⟩ | rfl))
  refine seqE (for_of (g := none) ?_ e) ?_
  · (simp -implicitDefEqProofs (disch := first | assumption | omega | decide) [Rules, rs1, sp1]; first | done | exact ⟨rfl, rfl⟩ | rfl)
  clear e sp1 rs1 rs sp
  generalize prgD ps = P at *
  generalize rdH h ps = H at *
  ((first | apply seqE | apply seqT); · (simp -implicitDefEqProofs (disch := first | assumption | omega | decide) [Rules, hq]; first | done | exact ⟨rfl, rfl⟩ | rfl))
  ((first | apply seqE | apply seqT); · (simp -implicitDefEqProofs (disch := first | assumption | omega | decide) [Rules, hdf, cl, el]; first | done | exact ⟨rfl, rfl⟩ | rfl))
  ((first | apply seqE | apply seqT); · (simp -implicitDefEqProofs (disch := first | assumption | omega | decide) [Rules, hdf, cp, et, en]; first | done | exact ⟨rfl, rfl⟩ | rfl))
  simp -implicitDefEqProofs (disch := first | assumption | omega | decide) [Rules]

/-! plain numbers; the law's own steps and programs -/
theorem plain_ok (ps : List (List Told)) (h : Hm) : F 15 [.tup (prgD ps)] h = .ok (.bl true) h := by
  rw [u15]
  generalize src.prg.C 15 = C at *
  unfold b15
  obtain ⟨ρ', h', e, x1, x2, e1, e2⟩ := loopF_for (body := bodyF C (.one 1) w15_1)
    (fun i ρ h' => ∃ x1 x2, ρ = [some (.tup (prgD ps)), x1, x2, none] ∧ h' = h)
    (xs := prgD ps) (ρ := [some (.tup (prgD ps)), none, none, none]) (h := h) ⟨none, none, rfl, rfl⟩
    (fun i x ρ h' hx ⟨x1, x2, e1, e2⟩ => by
      subst e1; subst e2
      rw [List.getElem?_map] at hx
      obtain ⟨p, hp, rfl⟩ := Option.map_eq_some_iff.mp hx
      obtain ⟨ρ2, h2, e3, y2, e4, e5⟩ := loopF_for (body := bodyF C (.one 2) w15_0)
        (fun j ρ h2 => ∃ y2, ρ = [some (.tup (prgD ps)), some (.tup (tds p)), y2, none] ∧ h2 = h')
        (xs := tds p) (ρ := [some (.tup (prgD ps)), some (.tup (tds p)), x2, none]) (h := h') ⟨x2, rfl, rfl⟩
        (fun j x ρ h2 hx ⟨y2, e1, e2⟩ => by
          subst e1; subst e2
          rw [List.getElem?_map] at hx
          obtain ⟨t, ht, rfl⟩ := Option.map_eq_some_iff.mp hx
          have hn := t.nums_len
          have hq : evE C none q15_0 [some (.tup (prgD ps)), some (.tup (tds p)), some t.d, none] h2 = .ok (.lst []) h2 := by
            unfold q15_0
            have ct := cut_td false t h2
            have := comp_maps (C := C) (elt := .var 3) (p := .one 3) (it := .seq (.cut false (.var 2) (some (.con (.int (1)))) none)) (cond := some (.isa (.var 3) .bool)) (own := [3]) (ρ := [some (.tup (prgD ps)), some (.tup (tds p)), some t.d, none]) (h := h2) t.nums D.int (fun _ => false) D.int (by
                generalize prgD ps = P at *
                generalize tds p = T at *
                generalize t.d = td at *
                generalize t.nums.map D.int = N at *
                simp [ct]) (by show _ ≤ 16777216; omega) (fun c hc => ⟨[some (.tup (prgD ps)), some (.tup (tds p)), some t.d, some (.int c)], rfl, by
                  generalize prgD ps = P at *
                  generalize tds p = T at *
                  generalize t.d = td at *
                  simp, fun e => by cases e⟩)
            rw [show t.nums.filter (fun _ => false) = [] from List.filter_eq_nil_iff.mpr fun _ _ => by simp] at this
            exact this
          have e0 : opC .ne (.lst []) (.lst []) h2 = .ok (.bl false) h2 := ne_data (.list []) (.list []) false rfl rfl (by decide +kernel)
          have it : isaD t.d .tuple h2 = .ok (.bl true) h2 := by cases t <;> rfl
          refine ⟨[some (.tup (prgD ps)), some (.tup (tds p)), some t.d, none], h2, .inl ?_, _, rfl, rfl⟩
          rw [bodyF_one]
          unfold w15_0
          generalize prgD ps = P at *
          generalize tds p = T at *
          generalize t.d = td at *
          simp -implicitDefEqProofs (disch := first | assumption | omega | decide) [Rules, hq, e0, it])
      subst e4; subst e5
      refine ⟨[some (.tup (prgD ps)), some (.tup (tds p)), y2, none], h2, .inl ?_, _, _, rfl, rfl⟩
      rw [bodyF_one]
      unfold w15_1
      refine seqT (ρ1 := [some (.tup (prgD ps)), some (.tup (tds p)), x2, none]) (h1 := h2) ?_ ?_
      · generalize prgD ps = P at *
        generalize tds p = T at *
        simp -implicitDefEqProofs (disch := first | assumption | omega | decide) [Rules]
      refine seqT (for_of (g := none) rfl e3) ?_
      rw [x_nil])
  subst e1; subst e2
  refine fin0 ?_
  generalize prgD ps = P at *
  ((first | apply seqE | apply seqT); · (simp -implicitDefEqProofs (disch := first | assumption | omega | decide) [Rules]; first | done | exact ⟨rfl, rfl⟩ | rfl))
  refine seqE (for_of (g := none) rfl e) ?_
  simp -implicitDefEqProofs (disch := first | assumption | omega | decide) [Rules]
def stepK (d c L : Int) : Told :=
  let b := d / 7 % 4
  let n := d / 28 % 12
  let s := if d / 300 % 2 = 0 then c % 1000000000000000000000000000000000000000000000000000000000000 else d / 28 % 11
  if d % 7 = 0 then .put b s
  else if d % 7 = 1 then .add b (d / 28 % 4)
  else if d % 7 = 2 then .set n b
  else if d % 7 = 3 then .clear
  else if d % 7 = 4 then .look b n
  else if d % 7 = 5 then .swap b n
  else .skip b (d / 28 % (L + 1))
theorem stepK_good (d c L : Int) (l0 : 0 ≤ L) (l1 : L ≤ 120) : okStep L (stepK d c L) := by
  have a := Int.emod_nonneg c (show (1000000000000000000000000000000000000000000000000000000000000 : Int) ≠ 0 by decide)
  have b := Int.emod_lt_of_pos c (show (0 : Int) < 1000000000000000000000000000000000000000000000000000000000000 by decide)
  have e0 := Int.emod_nonneg (d / 28) (show L + 1 ≠ 0 by omega)
  have e1 := Int.emod_lt_of_pos (d / 28) (show 0 < L + 1 by omega)
  have q : (121 : Int) < 1000000000000000000000000000000000000000000000000000000000000 := by decide
  unfold stepK
  dsimp only
  generalize c % 1000000000000000000000000000000000000000000000000000000000000 = m at *
  generalize d / 28 % (L + 1) = s at *
  repeat' split
  all_goals refine ⟨by simp only [Told.good] <;> omega, fun b q e => ?_⟩
  all_goals first | (cases e; done) | (cases e; omega)
theorem lawstep_ok (d c L : Int) (l0 : 0 ≤ L) (l1 : L ≤ 120) (h : Hm) : F 16 [.int d, .int c, .int L] h = .ok (stepK d c L).d h := by
  have v2 : d / 300 % 2 = 0 ∨ d / 300 % 2 = 1 := by omega
  have v7 : d % 7 = 0 ∨ d % 7 = 1 ∨ d % 7 = 2 ∨ d % 7 = 3 ∨ d % 7 = 4 ∨ d % 7 = 5 ∨ d % 7 = 6 := by omega
  rw [u16]
  generalize src.prg.C 16 = C
  unfold b16
  unfold stepK
  dsimp only
  refine fin0 ?_
  generalize hs : d / 28 % (L + 1) = s at *
  generalize hz : (if d / 300 % 2 = 0 then c % 1000000000000000000000000000000000000000000000000000000000000 else d / 28 % 11) = z at *
  refine seqE (ρ1 := [some (.int d), some (.int c), some (.int L), some (.int (d / 7 % 4)), none, none, none]) (h1 := h) (by simp -implicitDefEqProofs (disch := first | assumption | omega | decide) [Rules]) ?_
  refine seqE (ρ1 := [some (.int d), some (.int c), some (.int L), some (.int (d / 7 % 4)), some (.int (d / 28 % 12)), none, none]) (h1 := h) (by simp -implicitDefEqProofs (disch := first | assumption | omega | decide) [Rules]) ?_
  refine seqE (ρ1 := [some (.int d), some (.int c), some (.int L), some (.int (d / 7 % 4)), some (.int (d / 28 % 12)), some (.int z), none]) (h1 := h) (by rcases v2 with e | e <;> (rw [e] at hz; simp -implicitDefEqProofs (disch := first | assumption | omega | decide) [Rules, e]; simpa using hz)) ?_
  generalize d / 7 % 4 = b at *
  generalize d / 28 % 12 = n at *
  generalize ho : d / 28 % 4 = o at *
  ((first | apply seqE | apply seqT); · (simp -implicitDefEqProofs (disch := first | assumption | omega | decide) [Rules, ho]; first | done | exact ⟨rfl, rfl⟩ | rfl))
  have ca : opB .add false (.lst ([Told.put b z, .add b o, .set n b, .clear].map Told.d)) (.lst ([Told.look b n, .swap b n, .skip b s].map Told.d)) h = .ok (.lst ([Told.put b z, .add b o, .set n b, .clear, .look b n, .swap b n, .skip b s].map Told.d)) h := cat_ll _ _ (by rw [List.length_map, List.length_map]; exact (by decide : 4 + 3 ≤ 16777216))
  simp only [List.map, Told.d] at ca
  refine seqE (ρ1 := [some (.int d), some (.int c), some (.int L), some (.int b), some (.int n), some (.int z), some (.lst ([Told.put b z, .add b o, .set n b, .clear, .look b n, .swap b n, .skip b s].map Told.d))]) (h1 := h) (by simp -implicitDefEqProofs (disch := first | assumption | omega | decide) [Rules, hs, ca, Told.d]) ?_
  have ix : ∀ (kz : Int) (k : Nat) (t : Told), (k : Int) = kz → [Told.put b z, .add b o, .set n b, .clear, .look b n, .swap b n, .skip b s][k]? = some t → ixD (.lst ([Told.put b z, .add b o, .set n b, .clear, .look b n, .swap b n, .skip b s].map Told.d)) (.int kz) h = .ok t.d h := fun kz k t ek e => ek ▸ ix_lst _ _ _ (atI_nat (by rw [List.getElem?_map, e]; rfl))
  have i0 := ix 0 0 _ rfl rfl
  have i1 := ix 1 1 _ rfl rfl
  have i2 := ix 2 2 _ rfl rfl
  have i3 := ix 3 3 _ rfl rfl
  have i4 := ix 4 4 _ rfl rfl
  have i5 := ix 5 5 _ rfl rfl
  have i6 := ix 6 6 _ rfl rfl
  generalize [Told.put b z, .add b o, .set n b, .clear, .look b n, .swap b n, .skip b s].map Told.d = LL at *
  clear ix
  generalize hk : d % 7 = k at *
  rcases v7 with rfl | rfl | rfl | rfl | rfl | rfl | rfl
  · simp -implicitDefEqProofs (disch := first | assumption | omega | decide) [Rules, hk, i0]
  · simp -implicitDefEqProofs (disch := first | assumption | omega | decide) [Rules, hk, i1]
  · simp -implicitDefEqProofs (disch := first | assumption | omega | decide) [Rules, hk, i2]
  · simp -implicitDefEqProofs (disch := first | assumption | omega | decide) [Rules, hk, i3]
  · simp -implicitDefEqProofs (disch := first | assumption | omega | decide) [Rules, hk, i4]
  · simp -implicitDefEqProofs (disch := first | assumption | omega | decide) [Rules, hk, i5]
  · simp -implicitDefEqProofs (disch := first | assumption | omega | decide) [Rules, hk, i6]

/-! the law's own program -/
def stepsK (c : Int) (L : Nat) : List Told := (List.range L).map fun k : Nat => stepK (mixed c (k : Int)) c (L : Int)
theorem stepsK_good (c : Int) {L : Nat} (l : L ≤ 120) : GoodPart (stepsK c L) := okPart _ (L : Int) (by unfold stepsK; rw [List.length_map, List.length_range]; omega) (by unfold stepsK; rw [List.length_map, List.length_range]; omega) fun t ht => by
  obtain ⟨k, -, rfl⟩ := List.mem_map.mp ht
  exact stepK_good _ _ _ (by omega) (by omega)
theorem step_one {C : Calls} (cs : C.fn 16 = F 16) (cm : C.fn 17 = F 17) (hdf : ∀ i, C.df i [] = true) (a0 a1 x2 : Option D) (c : Int) {L k : Nat} (l120 : L ≤ 120) (hk2 : k < L) (H : Hm) : evE C none (.call 16 [(.call 17 [(.var 3), (.var 5)] []), (.var 3), (.var 4)] []) [a0, a1, x2, some (.int c), some (.int (L : Int)), some (.int (k : Int)), none, none, none, none] H = .ok (stepK (mixed c (k : Int)) c (L : Int)).d H := by
  have em := mixed_ok c (k : Int) (by omega) (by omega) H
  have es := lawstep_ok (mixed c (k : Int)) c (L : Int) (by omega) (by omega) H
  generalize mixed c (k : Int) = m at *
  generalize (k : Int) = kz at *
  generalize (stepK m c (L : Int)).d = sd at *
  generalize (L : Int) = lz at *
  simp -implicitDefEqProofs [hdf, cs, cm, em, es]
theorem steps_comp {C : Calls} (cs : C.fn 16 = F 16) (cm : C.fn 17 = F 17) (hdf : ∀ i, C.df i [] = true) (a0 a1 x2 : Option D) (c : Int) {L : Nat} (l120 : L ≤ 120) (H : Hm) : evE C none q18_0 [a0, a1, x2, some (.int c), some (.int (L : Int)), none, none, none, none, none] H = .ok (.lst (tds (stepsK c L))) H := by
  unfold q18_0
  have hi : evI C none (.range1 (.var 4)) [a0, a1, x2, some (.int c), some (.int (L : Int)), none, none, none, none, none] H = .ok ((List.range L).map (fun k : Nat => D.int (k : Int)), none) H := by
    have r1 := ir1 (h := H) L (by omega)
    rw [range_map0] at r1
    generalize (List.range L).map (fun k : Nat => D.int (k : Int)) = R at *
    generalize (L : Int) = lz at *
    simp -implicitDefEqProofs [r1]
  have hb : ∀ d : D, bindP (.one 5) d (wipe [a0, a1, x2, some (.int c), some (.int (L : Int)), none, none, none, none, none] [5]) = some [a0, a1, x2, some (.int c), some (.int (L : Int)), some d, none, none, none, none] := fun d => rfl
  have hl : (List.range L).length ≤ big := by
    rw [List.length_range]; show _ ≤ 16777216; omega
  have e : tds (stepsK c L) = (List.range L).map (fun k : Nat => (stepK (mixed c (k : Int)) c (L : Int)).d) := by
    simp only [stepsK, tds, List.map_map, Function.comp_def]
  rw [e]
  have so := fun k (hk : k < L) => step_one cs cm hdf a0 a1 x2 c l120 hk H
  generalize stepK = SK at *
  exact comp_allG (List.range L) (fun k : Nat => D.int (k : Int)) (fun k : Nat => (SK (mixed c (k : Int)) c (L : Int)).d) hi rfl hl fun k hk => ⟨_, hb _, so k (List.mem_range.mp hk)⟩
theorem law_parts {C : Calls} (cc : C.fn 1 = F 1) (cs : C.fn 16 = F 16) (cm : C.fn 17 = F 17) (hdf : ∀ i, C.df i [] = true) (ns : List Int) (n : Nat) (hn : n ≤ 4) (h : Hm) : ∃ (ps : List (List Told)) (x2 x3 x4 : Option D), ps.length = n ∧ (∀ p ∈ ps, GoodPart p) ∧
    loopF none (bodyF C (.one 2) w18_0) (rangeD 0 n) [some (.scr (ns.map D.int)), some (.ref h.length), none, none, none, none, none, none, none, none] (h ++ [.lst []]) = .ok .next [some (.scr (ns.map D.int)), some (.ref h.length), x2, x3, x4, none, none, none, none, none] (h ++ [.lst (prgD ps)]) := by
  obtain ⟨ρ', h', e, ps, x2, x3, x4, e1, e2, e3, e4⟩ := loopF_for (body := bodyF C (.one 2) w18_0)
    (fun i ρ h' => ∃ (ps : List (List Told)) (x2 x3 x4 : Option D), ρ = [some (.scr (ns.map D.int)), some (.ref h.length), x2, x3, x4, none, none, none, none, none] ∧ h' = h ++ [.lst (prgD ps)] ∧ ps.length = i ∧ ∀ p ∈ ps, GoodPart p)
    (xs := rangeD 0 n) (ρ := [some (.scr (ns.map D.int)), some (.ref h.length), none, none, none, none, none, none, none, none]) (h := h ++ [.lst []]) ⟨[], none, none, none, rfl, rfl, rfl, fun _ hp => by cases hp⟩
    (fun i x ρ h' hx ⟨ps, x2, x3, x4, e1, e2, e3, e4⟩ => by
      subst e1; subst e2
      obtain ⟨hi, rfl⟩ := rangeD_get hx
      rw [Int.zero_add]
      have rc := recv_last h (prgD ps)
      have ap := fun p : List Told => app_last (h := h) (prgD ps) false (.tup (tds p)) (by rw [List.length_map]; omega)
      simp only [prgD_app] at ap
      generalize hH : h ++ [Node.lst (prgD ps)] = H at *
      have c0 := cell_okI ns 0 (by decide) H
      have c1 := cell_okI ns (1 + (i : Int)) (by omega) H
      generalize cellAt ns (1 + (i : Int)).toNat = c at *
      generalize cellAt ns (Int.toNat 0) = z at *
      obtain ⟨L, hL, l120⟩ : ∃ L : Nat, (if z / 4 % 16 = 7 then 100 + c % 21 else c % 21) = (L : Int) ∧ L ≤ 120 := by
        have h0 := Int.emod_nonneg c (show (21 : Int) ≠ 0 by decide)
        have h1 := Int.emod_lt_of_pos c (show (0 : Int) < 21 by decide)
        by_cases q : z / 4 % 16 = 7
        · rw [if_pos q]; exact ⟨(100 + c % 21).toNat, by omega, by omega⟩
        · rw [if_neg q]; exact ⟨(c % 21).toNat, by omega, by omega⟩
      have hq : ∀ x2, evE C none q18_0 [some (.scr (ns.map D.int)), some (.ref h.length), x2, some (.int c), some (.int (L : Int)), none, none, none, none, none] H = .ok (.lst (tds (stepsK c L))) H := fun x2 => steps_comp cs cm hdf _ _ x2 c l120 H
      have gp : GoodPart (stepsK c L) := stepsK_good c l120
      generalize stepsK c L = p at *
      refine ⟨[some (.scr (ns.map D.int)), some (.ref h.length), some (.int (i : Int)), some (.int c), some (.int (L : Int)), none, none, none, none, none], h ++ [.lst (prgD (ps ++ [p]))], .inl ?_, ps ++ [p], _, _, _, rfl, rfl, by rw [List.length_append, e3]; rfl, fun q hq => ?_⟩
      · rw [bodyF_one]
        unfold w18_0
        have ap1 := ap p
        generalize h ++ [Node.lst (prgD (ps ++ [p]))] = H1 at *
        generalize tds p = T at *
        generalize ns.map D.int = NS at *
        refine seqT (ρ1 := [some (.scr NS), some (.ref h.length), some (.int (i : Int)), some (.int c), x4, none, none, none, none, none]) (h1 := H) ?_ ?_
        · generalize (i : Int) = iz at *
          simp -implicitDefEqProofs (disch := first | assumption | omega | decide) [Rules, hdf, cc, c1]
        refine seqT (ρ1 := [some (.scr NS), some (.ref h.length), some (.int (i : Int)), some (.int c), some (.int (c % 21)), none, none, none, none, none]) (h1 := H) ?_ ?_
        · generalize (i : Int) = iz at *
          simp -implicitDefEqProofs (disch := first | assumption | omega | decide) [Rules]
        refine seqT (ρ1 := [some (.scr NS), some (.ref h.length), some (.int (i : Int)), some (.int c), some (.int (L : Int)), none, none, none, none, none]) (h1 := H) ?_ ?_
        · generalize (i : Int) = iz at *
          by_cases q : z / 4 % 16 = 7
          · rw [if_pos q] at hL
            generalize (L : Int) = lz at *
            simp -implicitDefEqProofs (disch := first | assumption | omega | decide) [Rules, hdf, cc, c0, q, hL]
          · rw [if_neg q] at hL
            generalize (L : Int) = lz at *
            simp -implicitDefEqProofs (disch := first | assumption | omega | decide) [Rules, hdf, cc, c0, q, hL]
        · generalize (i : Int) = iz at *
          generalize (L : Int) = lz at *
          simp -implicitDefEqProofs (disch := first | assumption | omega | decide) [Rules, rc, hq, ap1]
      · rcases List.mem_append.mp hq with h | h
        · exact e4 q h
        · rw [List.mem_singleton.mp h]; exact gp)
  subst e1; subst e2
  rw [rangeD_len] at e3
  exact ⟨ps, x2, x3, x4, e3, e4, e⟩
theorem law_fn (ns : List Int) (h : Hm) : F 18 [.scr (ns.map D.int)] h = .ok (.bl true) h := by
  have cc : (src.prg.C 18).fn 1 = F 1 := callF (by decide)
  have cs : (src.prg.C 18).fn 16 = F 16 := callF (by decide)
  have cm : (src.prg.C 18).fn 17 = F 17 := callF (by decide)
  have cw : (src.prg.C 18).fn 0 = F 0 := callF (by decide)
  have ct : (src.prg.C 18).fn 12 = F 12 := callF (by decide)
  have cr : (src.prg.C 18).fn 14 = F 14 := callF (by decide)
  have cp : (src.prg.C 18).fn 15 = F 15 := callF (by decide)
  have hdf : ∀ i, (src.prg.C 18).df i [] = true := fun i => dfF
  rw [u18]
  generalize src.prg.C 18 = C at *
  unfold b18
  have c0 := cell_okI ns 0 (by decide) (h ++ [.lst []])
  obtain ⟨n, hn, n1, n4⟩ : ∃ n : Nat, 1 + cellAt ns (Int.toNat 0) % 4 = (n : Int) ∧ 1 ≤ n ∧ n ≤ 4 := ⟨(1 + cellAt ns (Int.toNat 0) % 4).toNat, by omega, by omega, by omega⟩
  obtain ⟨ps, x2, x3, x4, p1, p2, e⟩ := law_parts cc cs cm hdf ns n n4 h
  have G : GoodPrg ps := ⟨by omega, by omega, p2⟩
  generalize cellAt ns (Int.toNat 0) = z at *
  refine finG (g := [.lst (prgD ps)]) rfl ?_
  have r1 := ir1 (h := h ++ [Node.lst []]) n (by omega)
  have tr := tup_last (h := h) false (prgD ps)
  have e1 := shown_ok G (h ++ [.lst (prgD ps)])
  have e2 := program_text_ok G (h ++ [.lst (prgD ps)])
  have e3 := read_ok G (h ++ [.lst (prgD ps)])
  have e4 := plain_ok ps (h ++ [.lst (prgD ps)])
  have e5 := ne_tx (progT ps) (progT ps) (prog_lay G) (prog_lay G) (h ++ [.lst (prgD ps)])
  have e6 := eq_tx (progT ps) (progT ps) (prog_lay G) (prog_lay G) (h ++ [.lst (prgD ps)])
  have e7 := ne_dec (h := h ++ [.lst (prgD ps)]) (prg_okD ps) (prg_okD ps) (prg_strict ps) (prg_strict ps)
  rw [decide_eq_true (rfl : progT ps = progT ps)] at e5 e6
  rw [decide_eq_true (rfl : D.tup (prgD ps) = D.tup (prgD ps))] at e7
  generalize progT ps = T at *
  generalize ns.map D.int = NS at *
  ((first | apply seqE | apply seqT); · (simp -implicitDefEqProofs (disch := first | assumption | omega | decide) [Rules]; first | done | exact ⟨rfl, rfl⟩ | rfl))
  refine seqE (for_of (g := none) ?_ e) ?_
  · generalize (n : Int) = nz at *
    (simp -implicitDefEqProofs (disch := first | assumption | omega | decide) [Rules, hdf, cc, c0, hn, r1]; first | done | exact ⟨rfl, rfl⟩ | rfl)
  clear e c0 r1
  generalize h ++ [Node.lst (prgD ps)] = H at *
  generalize prgD ps = P at *
  ((first | apply seqE | apply seqT); · (simp -implicitDefEqProofs (disch := first | assumption | omega | decide) [Rules, tr]; first | done | exact ⟨rfl, rfl⟩ | rfl))
  ((first | apply seqE | apply seqT); · (simp -implicitDefEqProofs (disch := first | assumption | omega | decide) [Rules, hdf, cw, e1]; first | done | exact ⟨rfl, rfl⟩ | rfl))
  have r2 := ir1lit (h := H) 2 (by decide)
  rw [show rangeD 0 (Int.toNat 2) = [D.int 0, D.int 1] from rfl] at r2
  have body : ∀ x8 x9 k, bodyF C (.one 8) w18_1 (.int k) [some (.scr NS), some (.ref h.length), x2, x3, x4, none, some (.tup P), some (.str T), x8, x9] H = .ok .next [some (.scr NS), some (.ref h.length), x2, x3, x4, none, some (.tup P), some (.str T), some (.int k), some (.tup P)] H := fun x8 x9 k => by
    rw [bodyF_one]
    unfold w18_1
    simp -implicitDefEqProofs (disch := first | assumption | omega | decide) [Rules, hdf, ct, e2, e5, cr, e3, e7, cp, e4]
  have lp : loopF none (bodyF C (.one 8) w18_1) [D.int 0, D.int 1] [some (.scr NS), some (.ref h.length), x2, x3, x4, none, some (.tup P), some (.str T), none, none] H = .ok .next [some (.scr NS), some (.ref h.length), x2, x3, x4, none, some (.tup P), some (.str T), some (.int 1), some (.tup P)] H := by
    unfold loopF
    rw [if_pos (show guardOk none H = true from rfl), body]
    dsimp only
    unfold loopF
    rw [if_pos (show guardOk none H = true from rfl), body]
    dsimp only
    exact loopF_nil _
  refine seqE (for_of (g := none) ?_ lp) ?_
  · (simp -implicitDefEqProofs (disch := first | assumption | omega | decide) [Rules, r2]; first | done | exact ⟨rfl, rfl⟩ | rfl)
  simp -implicitDefEqProofs (disch := first | assumption | omega | decide) [Rules, hdf, cr, e3, ct, e2, e6]
theorem law_true : ∀ ns : List Int, ns.length ≤ 63 → ∃ h, src.lawAt 18 ns = .ok (.bl true) h := fun ns _ => ⟨[], law_fn ns []⟩

set_option maxHeartbeats 1000000
theorem all_mk {K : PySem.W.Frag} {h : Heap} {mg : Str → Option Value} {fl : Addr} (X : K.In h) (G : h.Ns mainGlobals mg) (hfa : mg "law" = some (.ref fl))
    {f0 f1 f2 f3 f4 f5 f6 f7 f8 f9 f10 f11 f12 f13 f14 f15 f16 f17 f18 c5 c6 c7 c8 c9 c10 c11 x1 x2 x3 x4 : Addr} {od0 an0 od1 an1 od2 an2 od3 an3 od4 an4 od5 an5 od6 an6 od7 an7 od8 an8 od9 an9 od10 an10 od11 an11 od12 an12 od13 an13 od14 an14 od15 an15 od16 an16 od17 an17 od18 an18 : Option Addr} {sl0 sl1 sl2 sl3 sl4 sl5 sl6 sl7 sl8 sl9 sl10 sl11 sl12 sl13 sl14 sl15 sl16 sl17 sl18 : Array (Option Value)} {oc0 kv0 dc0 pm0 cd0 ct0 oc1 kv1 dc1 pm1 cd1 ct1 oc2 kv2 dc2 pm2 cd2 ct2 oc3 kv3 dc3 pm3 cd3 ct3 oc4 kv4 dc4 pm4 cd4 ct4 oc5 kv5 dc5 pm5 cd5 ct5 oc6 kv6 dc6 pm6 cd6 ct6 oc7 kv7 dc7 pm7 cd7 ct7 oc8 kv8 dc8 pm8 cd8 ct8 oc9 kv9 dc9 pm9 cd9 ct9 oc10 kv10 dc10 pm10 cd10 ct10 oc11 kv11 dc11 pm11 cd11 ct11 oc12 kv12 dc12 pm12 cd12 ct12 oc13 kv13 dc13 pm13 cd13 ct13 oc14 kv14 dc14 pm14 cd14 ct14 oc15 kv15 dc15 pm15 cd15 ct15 oc16 kv16 dc16 pm16 cd16 ct16 oc17 kv17 dc17 pm17 cd17 ct17 oc18 kv18 dc18 pm18 cd18 ct18 : Value} {tk0 tk1 tk2 : Tok}
    (a0 : PySem.W.nsIn K mainGlobals "_law_shown" = some (some (.ref f0)))
    (a1 : PySem.W.nsIn K mainGlobals "_law_cell_at" = some (some (.ref f1)))
    (a3 : PySem.W.nsIn K mainGlobals "is_number" = some (some (.ref f3)))
    (a4 : PySem.W.nsIn K mainGlobals "fits" = some (some (.ref f4)))
    (a6 : PySem.W.nsIn K mainGlobals "step_of" = some (some (.ref f6)))
    (a9 : PySem.W.nsIn K mainGlobals "is_good" = some (some (.ref f9)))
    (a10 : PySem.W.nsIn K mainGlobals "look_over" = some (some (.ref f10)))
    (a11 : PySem.W.nsIn K mainGlobals "step_text" = some (some (.ref f11)))
    (a12 : PySem.W.nsIn K mainGlobals "program_text" = some (some (.ref f12)))
    (a13 : PySem.W.nsIn K mainGlobals "number_of" = some (some (.ref f13)))
    (a14 : PySem.W.nsIn K mainGlobals "read_program" = some (some (.ref f14)))
    (a15 : PySem.W.nsIn K mainGlobals "_law_plain" = some (some (.ref f15)))
    (a16 : PySem.W.nsIn K mainGlobals "_law_step" = some (some (.ref f16)))
    (a17 : PySem.W.nsIn K mainGlobals "_law_mixed" = some (some (.ref f17)))
    (a18 : PySem.W.nsIn K mainGlobals "law" = some (some (.ref f18)))
    (ac5 : PySem.W.nsIn K mainGlobals "Put" = some (some (.ref c5)))
    (ac6 : PySem.W.nsIn K mainGlobals "Add" = some (some (.ref c6)))
    (ac7 : PySem.W.nsIn K mainGlobals "Set" = some (some (.ref c7)))
    (ac8 : PySem.W.nsIn K mainGlobals "Look" = some (some (.ref c8)))
    (ac9 : PySem.W.nsIn K mainGlobals "Swap" = some (some (.ref c9)))
    (ac10 : PySem.W.nsIn K mainGlobals "Clear" = some (some (.ref c10)))
    (ac11 : PySem.W.nsIn K mainGlobals "Skip" = some (some (.ref c11)))
    (ai5 : PySem.W.findIn K (.ref c5) "__init__" = some (some (.ref f5)))
    (ai6 : PySem.W.findIn K (.ref c6) "__init__" = some (some (.ref f5)))
    (ai7 : PySem.W.findIn K (.ref c7) "__init__" = some (some (.ref f5)))
    (ai8 : PySem.W.findIn K (.ref c8) "__init__" = some (some (.ref f5)))
    (ai9 : PySem.W.findIn K (.ref c9) "__init__" = some (some (.ref f5)))
    (ai10 : PySem.W.findIn K (.ref c10) "__init__" = some (some (.ref f5)))
    (ai11 : PySem.W.findIn K (.ref c11) "__init__" = some (some (.ref f5)))
    (am5_3 : PySem.W.findIn K (.ref c5) "nexts" = some (some (.ref f7)))
    (am6_3 : PySem.W.findIn K (.ref c6) "nexts" = some (some (.ref f7)))
    (am7_3 : PySem.W.findIn K (.ref c7) "nexts" = some (some (.ref f7)))
    (am8_3 : PySem.W.findIn K (.ref c8) "nexts" = some (some (.ref f7)))
    (am9_3 : PySem.W.findIn K (.ref c9) "nexts" = some (some (.ref f7)))
    (am10_3 : PySem.W.findIn K (.ref c10) "nexts" = some (some (.ref f7)))
    (am11_3 : PySem.W.findIn K (.ref c11) "nexts" = some (some (.ref f8)))
    (l0 : K.lookup f0 = some ⟨oc0, od0, .func (PySem.W.fnOf "_law_shown" "_law_shown" (defArgs d0.st) (defBody d0.st) (defScope d0.st) .none kv0 dc0 pm0 an0 cd0 ct0), sl0⟩)
    (cc0 : PySem.W.codeIn K cd0 "_law_shown" = true)
    (kk0 : PySem.W.keepIn K (.ref f0) = true)
    (l1 : K.lookup f1 = some ⟨oc1, od1, .func (PySem.W.fnOf "_law_cell_at" "_law_cell_at" (defArgs d1.st) (defBody d1.st) (defScope d1.st) .none kv1 dc1 pm1 an1 cd1 ct1), sl1⟩)
    (cc1 : PySem.W.codeIn K cd1 "_law_cell_at" = true)
    (kk1 : PySem.W.keepIn K (.ref f1) = true)
    (l2 : K.lookup f2 = some ⟨oc2, od2, .func (PySem.W.fnOf "__init__" "NoProgram.__init__" (defArgs d2.st) (defBody d2.st) (defScope d2.st) .none kv2 dc2 pm2 an2 cd2 ct2), sl2⟩)
    (cc2 : PySem.W.codeIn K cd2 "NoProgram.__init__" = true)
    (kk2 : PySem.W.keepIn K (.ref f2) = true)
    (l3 : K.lookup f3 = some ⟨oc3, od3, .func (PySem.W.fnOf "is_number" "is_number" (defArgs d3.st) (defBody d3.st) (defScope d3.st) .none kv3 dc3 pm3 an3 cd3 ct3), sl3⟩)
    (cc3 : PySem.W.codeIn K cd3 "is_number" = true)
    (kk3 : PySem.W.keepIn K (.ref f3) = true)
    (l4 : K.lookup f4 = some ⟨oc4, od4, .func (PySem.W.fnOf "fits" "fits" (defArgs d4.st) (defBody d4.st) (defScope d4.st) .none kv4 dc4 pm4 an4 cd4 ct4), sl4⟩)
    (cc4 : PySem.W.codeIn K cd4 "fits" = true)
    (kk4 : PySem.W.keepIn K (.ref f4) = true)
    (l5 : K.lookup f5 = some ⟨oc5, od5, .func (PySem.W.fnOf "__init__" "Step.__init__" (defArgs d5.st) (defBody d5.st) (defScope d5.st) .none kv5 dc5 pm5 an5 cd5 ct5), sl5⟩)
    (cc5 : PySem.W.codeIn K cd5 "Step.__init__" = true)
    (kk5 : PySem.W.keepIn K (.ref f5) = true)
    (l6 : K.lookup f6 = some ⟨oc6, od6, .func (PySem.W.fnOf "step_of" "step_of" (defArgs d6.st) (defBody d6.st) (defScope d6.st) .none kv6 dc6 pm6 an6 cd6 ct6), sl6⟩)
    (cc6 : PySem.W.codeIn K cd6 "step_of" = true)
    (kk6 : PySem.W.keepIn K (.ref f6) = true)
    (l7 : K.lookup f7 = some ⟨oc7, od7, .func (PySem.W.fnOf "nexts" "Step.nexts" (defArgs d7.st) (defBody d7.st) (defScope d7.st) .none kv7 dc7 pm7 an7 cd7 ct7), sl7⟩)
    (cc7 : PySem.W.codeIn K cd7 "Step.nexts" = true)
    (kk7 : PySem.W.keepIn K (.ref f7) = true)
    (l8 : K.lookup f8 = some ⟨oc8, od8, .func (PySem.W.fnOf "nexts" "Skip.nexts" (defArgs d8.st) (defBody d8.st) (defScope d8.st) .none kv8 dc8 pm8 an8 cd8 ct8), sl8⟩)
    (cc8 : PySem.W.codeIn K cd8 "Skip.nexts" = true)
    (kk8 : PySem.W.keepIn K (.ref f8) = true)
    (l9 : K.lookup f9 = some ⟨oc9, od9, .func (PySem.W.fnOf "is_good" "is_good" (defArgs d9.st) (defBody d9.st) (defScope d9.st) .none kv9 dc9 pm9 an9 cd9 ct9), sl9⟩)
    (cc9 : PySem.W.codeIn K cd9 "is_good" = true)
    (kk9 : PySem.W.keepIn K (.ref f9) = true)
    (l10 : K.lookup f10 = some ⟨oc10, od10, .func (PySem.W.fnOf "look_over" "look_over" (defArgs d10.st) (defBody d10.st) (defScope d10.st) .none kv10 dc10 pm10 an10 cd10 ct10), sl10⟩)
    (cc10 : PySem.W.codeIn K cd10 "look_over" = true)
    (kk10 : PySem.W.keepIn K (.ref f10) = true)
    (l11 : K.lookup f11 = some ⟨oc11, od11, .func (PySem.W.fnOf "step_text" "step_text" (defArgs d11.st) (defBody d11.st) (defScope d11.st) .none kv11 dc11 pm11 an11 cd11 ct11), sl11⟩)
    (cc11 : PySem.W.codeIn K cd11 "step_text" = true)
    (kk11 : PySem.W.keepIn K (.ref f11) = true)
    (l12 : K.lookup f12 = some ⟨oc12, od12, .func (PySem.W.fnOf "program_text" "program_text" (defArgs d12.st) (defBody d12.st) (defScope d12.st) .none kv12 dc12 pm12 an12 cd12 ct12), sl12⟩)
    (cc12 : PySem.W.codeIn K cd12 "program_text" = true)
    (kk12 : PySem.W.keepIn K (.ref f12) = true)
    (l13 : K.lookup f13 = some ⟨oc13, od13, .func (PySem.W.fnOf "number_of" "number_of" (defArgs d13.st) (defBody d13.st) (defScope d13.st) .none kv13 dc13 pm13 an13 cd13 ct13), sl13⟩)
    (cc13 : PySem.W.codeIn K cd13 "number_of" = true)
    (kk13 : PySem.W.keepIn K (.ref f13) = true)
    (l14 : K.lookup f14 = some ⟨oc14, od14, .func (PySem.W.fnOf "read_program" "read_program" (defArgs d14.st) (defBody d14.st) (defScope d14.st) .none kv14 dc14 pm14 an14 cd14 ct14), sl14⟩)
    (cc14 : PySem.W.codeIn K cd14 "read_program" = true)
    (kk14 : PySem.W.keepIn K (.ref f14) = true)
    (l15 : K.lookup f15 = some ⟨oc15, od15, .func (PySem.W.fnOf "_law_plain" "_law_plain" (defArgs d15.st) (defBody d15.st) (defScope d15.st) .none kv15 dc15 pm15 an15 cd15 ct15), sl15⟩)
    (cc15 : PySem.W.codeIn K cd15 "_law_plain" = true)
    (kk15 : PySem.W.keepIn K (.ref f15) = true)
    (l16 : K.lookup f16 = some ⟨oc16, od16, .func (PySem.W.fnOf "_law_step" "_law_step" (defArgs d16.st) (defBody d16.st) (defScope d16.st) .none kv16 dc16 pm16 an16 cd16 ct16), sl16⟩)
    (cc16 : PySem.W.codeIn K cd16 "_law_step" = true)
    (kk16 : PySem.W.keepIn K (.ref f16) = true)
    (l17 : K.lookup f17 = some ⟨oc17, od17, .func (PySem.W.fnOf "_law_mixed" "_law_mixed" (defArgs d17.st) (defBody d17.st) (defScope d17.st) .none kv17 dc17 pm17 an17 cd17 ct17), sl17⟩)
    (cc17 : PySem.W.codeIn K cd17 "_law_mixed" = true)
    (kk17 : PySem.W.keepIn K (.ref f17) = true)
    (l18 : K.lookup f18 = some ⟨oc18, od18, .func (PySem.W.fnOf "law" "law" (defArgs d18.st) (defBody d18.st) (defScope d18.st) .none kv18 dc18 pm18 an18 cd18 ct18), sl18⟩)
    (cc18 : PySem.W.codeIn K cd18 "law" = true)
    (kk18 : PySem.W.keepIn K (.ref f18) = true)
    (fn5 : PySem.W.isFn K (.ref f5) = true)
    (fn7 : PySem.W.isFn K (.ref f7) = true)
    (fn8 : PySem.W.isFn K (.ref f8) = true)
    (pg5 : PySem.W.plainGet K c5 Str.empty = true)
    (hd5 : PySem.W.hasDictIn K c5 = true)
    (po5 : PySem.W.plainOver K c5 = true)
    (sa5 : PySem.W.findIn K (.ref c5) "__setattr__" = some (some (.builtin "object.__setattr__")))
    (mk5 : PySem.W.makesIn K c5 = true)
    (kc5 : PySem.W.keepIn K (.ref c5) = true)
    (pg6 : PySem.W.plainGet K c6 Str.empty = true)
    (hd6 : PySem.W.hasDictIn K c6 = true)
    (po6 : PySem.W.plainOver K c6 = true)
    (sa6 : PySem.W.findIn K (.ref c6) "__setattr__" = some (some (.builtin "object.__setattr__")))
    (mk6 : PySem.W.makesIn K c6 = true)
    (kc6 : PySem.W.keepIn K (.ref c6) = true)
    (pg7 : PySem.W.plainGet K c7 Str.empty = true)
    (hd7 : PySem.W.hasDictIn K c7 = true)
    (po7 : PySem.W.plainOver K c7 = true)
    (sa7 : PySem.W.findIn K (.ref c7) "__setattr__" = some (some (.builtin "object.__setattr__")))
    (mk7 : PySem.W.makesIn K c7 = true)
    (kc7 : PySem.W.keepIn K (.ref c7) = true)
    (pg8 : PySem.W.plainGet K c8 Str.empty = true)
    (hd8 : PySem.W.hasDictIn K c8 = true)
    (po8 : PySem.W.plainOver K c8 = true)
    (sa8 : PySem.W.findIn K (.ref c8) "__setattr__" = some (some (.builtin "object.__setattr__")))
    (mk8 : PySem.W.makesIn K c8 = true)
    (kc8 : PySem.W.keepIn K (.ref c8) = true)
    (pg9 : PySem.W.plainGet K c9 Str.empty = true)
    (hd9 : PySem.W.hasDictIn K c9 = true)
    (po9 : PySem.W.plainOver K c9 = true)
    (sa9 : PySem.W.findIn K (.ref c9) "__setattr__" = some (some (.builtin "object.__setattr__")))
    (mk9 : PySem.W.makesIn K c9 = true)
    (kc9 : PySem.W.keepIn K (.ref c9) = true)
    (pg10 : PySem.W.plainGet K c10 Str.empty = true)
    (hd10 : PySem.W.hasDictIn K c10 = true)
    (po10 : PySem.W.plainOver K c10 = true)
    (sa10 : PySem.W.findIn K (.ref c10) "__setattr__" = some (some (.builtin "object.__setattr__")))
    (mk10 : PySem.W.makesIn K c10 = true)
    (kc10 : PySem.W.keepIn K (.ref c10) = true)
    (pg11 : PySem.W.plainGet K c11 Str.empty = true)
    (hd11 : PySem.W.hasDictIn K c11 = true)
    (po11 : PySem.W.plainOver K c11 = true)
    (sa11 : PySem.W.findIn K (.ref c11) "__setattr__" = some (some (.builtin "object.__setattr__")))
    (mk11 : PySem.W.makesIn K c11 = true)
    (kc11 : PySem.W.keepIn K (.ref c11) = true)
    (nf5_2 : PySem.W.findIn K (.ref c5) "parts" = some none)
    (nf6_2 : PySem.W.findIn K (.ref c6) "parts" = some none)
    (nf7_2 : PySem.W.findIn K (.ref c7) "parts" = some none)
    (nf8_2 : PySem.W.findIn K (.ref c8) "parts" = some none)
    (nf9_2 : PySem.W.findIn K (.ref c9) "parts" = some none)
    (nf10_2 : PySem.W.findIn K (.ref c10) "parts" = some none)
    (nf11_2 : PySem.W.findIn K (.ref c11) "parts" = some none)
    (xa1 : PySem.W.nsIn K mainGlobals "NoStep" = some (some (.ref x1)))
    (xi1 : PySem.W.excIn K x1 [.type "ValueError", .type "Exception", .type "BaseException", .type "object"] "ValueError.__new__" = true)
    (xk1 : PySem.W.keepIn K (.ref x1) = true)
    (xb1 : PySem.W.subIn K (.ref x1) (.type "BaseException") = some true)
    (xt1 : PySem.W.typeIn K (.ref x1) = some (.type "type"))
    (xg1 : PySem.W.findIn K (.ref x1) "__getattribute__" = some (some (.builtin "BaseException.__getattribute__")))
    (xh1 : PySem.W.findIn K (.ref x1) "__getattr__" = some none)
    (xd1 : PySem.W.hasDictIn K x1 = true)
    (xc1 : PySem.W.findIn K (.ref x1) "__class__" = some (some (.builtin "object.__class__")))
    (xm1 : PySem.W.mroIn K x1 (.type "object") = some true)
    (xv1 : PySem.W.subIn K (.ref x1) (.type "ValueError") = some true)
    (xs1_1 : PySem.W.subIn K (.ref x1) (.ref x1) = some true)
    (xs1_2 : PySem.W.subIn K (.ref x1) (.ref x2) = some false)
    (xs1_3 : PySem.W.subIn K (.ref x1) (.ref x3) = some false)
    (xs1_4 : PySem.W.subIn K (.ref x1) (.ref x4) = some false)
    (xa2 : PySem.W.nsIn K mainGlobals "NoClerks" = some (some (.ref x2)))
    (xi2 : PySem.W.excIn K x2 [.type "ValueError", .type "Exception", .type "BaseException", .type "object"] "ValueError.__new__" = true)
    (xk2 : PySem.W.keepIn K (.ref x2) = true)
    (xb2 : PySem.W.subIn K (.ref x2) (.type "BaseException") = some true)
    (xt2 : PySem.W.typeIn K (.ref x2) = some (.type "type"))
    (xg2 : PySem.W.findIn K (.ref x2) "__getattribute__" = some (some (.builtin "BaseException.__getattribute__")))
    (xh2 : PySem.W.findIn K (.ref x2) "__getattr__" = some none)
    (xd2 : PySem.W.hasDictIn K x2 = true)
    (xc2 : PySem.W.findIn K (.ref x2) "__class__" = some (some (.builtin "object.__class__")))
    (xm2 : PySem.W.mroIn K x2 (.type "object") = some true)
    (xv2 : PySem.W.subIn K (.ref x2) (.type "ValueError") = some true)
    (xs2_1 : PySem.W.subIn K (.ref x2) (.ref x1) = some false)
    (xs2_2 : PySem.W.subIn K (.ref x2) (.ref x2) = some true)
    (xs2_3 : PySem.W.subIn K (.ref x2) (.ref x3) = some false)
    (xs2_4 : PySem.W.subIn K (.ref x2) (.ref x4) = some false)
    (xa3 : PySem.W.nsIn K mainGlobals "NoProgram" = some (some (.ref x3)))
    (xo3 : PySem.W.excInitIn K x3 [.type "ValueError", .type "Exception", .type "BaseException", .type "object"] "ValueError.__new__" = true)
    (xy3 : PySem.W.findIn K (.ref x3) "__setattr__" = some (some (.builtin "object.__setattr__")))
    (xk3 : PySem.W.keepIn K (.ref x3) = true)
    (xb3 : PySem.W.subIn K (.ref x3) (.type "BaseException") = some true)
    (xt3 : PySem.W.typeIn K (.ref x3) = some (.type "type"))
    (xg3 : PySem.W.findIn K (.ref x3) "__getattribute__" = some (some (.builtin "BaseException.__getattribute__")))
    (xh3 : PySem.W.findIn K (.ref x3) "__getattr__" = some none)
    (xd3 : PySem.W.hasDictIn K x3 = true)
    (xc3 : PySem.W.findIn K (.ref x3) "__class__" = some (some (.builtin "object.__class__")))
    (xm3 : PySem.W.mroIn K x3 (.type "object") = some true)
    (xv3 : PySem.W.subIn K (.ref x3) (.type "ValueError") = some true)
    (xs3_1 : PySem.W.subIn K (.ref x3) (.ref x1) = some false)
    (xs3_2 : PySem.W.subIn K (.ref x3) (.ref x2) = some false)
    (xs3_3 : PySem.W.subIn K (.ref x3) (.ref x3) = some true)
    (xs3_4 : PySem.W.subIn K (.ref x3) (.ref x4) = some false)
    (xa4 : PySem.W.nsIn K mainGlobals "NoText" = some (some (.ref x4)))
    (xi4 : PySem.W.excIn K x4 [.type "ValueError", .type "Exception", .type "BaseException", .type "object"] "ValueError.__new__" = true)
    (xk4 : PySem.W.keepIn K (.ref x4) = true)
    (xb4 : PySem.W.subIn K (.ref x4) (.type "BaseException") = some true)
    (xt4 : PySem.W.typeIn K (.ref x4) = some (.type "type"))
    (xg4 : PySem.W.findIn K (.ref x4) "__getattribute__" = some (some (.builtin "BaseException.__getattribute__")))
    (xh4 : PySem.W.findIn K (.ref x4) "__getattr__" = some none)
    (xd4 : PySem.W.hasDictIn K x4 = true)
    (xc4 : PySem.W.findIn K (.ref x4) "__class__" = some (some (.builtin "object.__class__")))
    (xm4 : PySem.W.mroIn K x4 (.type "object") = some true)
    (xv4 : PySem.W.subIn K (.ref x4) (.type "ValueError") = some true)
    (xs4_1 : PySem.W.subIn K (.ref x4) (.ref x1) = some false)
    (xs4_2 : PySem.W.subIn K (.ref x4) (.ref x2) = some false)
    (xs4_3 : PySem.W.subIn K (.ref x4) (.ref x3) = some false)
    (xs4_4 : PySem.W.subIn K (.ref x4) (.ref x4) = some true)
    (xf3_0 : PySem.W.findIn K (.ref x3) "clerk" = some none)
    (xf3_1 : PySem.W.findIn K (.ref x3) "place" = some none)
    (xj3 : PySem.W.findIn K (.ref x3) "__init__" = some (some (.ref f2)))
    (xz3 : PySem.W.typeIn K (.ref f2) = some (.type "function"))
    (xn : PySem.W.specialIn K (.builtin "object.__class__") "__get__" = some (some (.builtin "getset_descriptor.__get__")))
    (xT : PySem.W.takesIn K (.builtin "object.__class__") = some true)
    (zi0 : PySem.W.nsIn K mainGlobals "TOP" = some (some (.int 1000000000000000000000000000000000000000000000000000000000000 tk0)))
    (zi1 : PySem.W.nsIn K mainGlobals "LONGEST" = some (some (.int 120 tk1)))
    (zi2 : PySem.W.nsIn K mainGlobals "FIGURES" = some (some (.str "0123456789" tk2)))
    (zb0 : PySem.W.nsIn K mainGlobals "ValueError" = some none)
    (zb1 : PySem.W.nsIn K mainGlobals "len" = some none)
    (zb2 : PySem.W.nsIn K mainGlobals "int" = some none)
    (zb3 : PySem.W.nsIn K mainGlobals "str" = some none)
    (zb4 : PySem.W.nsIn K mainGlobals "list" = some none)
    (zb5 : PySem.W.nsIn K mainGlobals "tuple" = some none)
    (zb6 : PySem.W.nsIn K mainGlobals "max" = some none)
    (zb7 : PySem.W.nsIn K mainGlobals "min" = some none)
    (zb8 : PySem.W.nsIn K mainGlobals "sum" = some none)
    (zb9 : PySem.W.nsIn K mainGlobals "all" = some none)
    (zb10 : PySem.W.nsIn K mainGlobals "sorted" = some none)
    (zb11 : PySem.W.nsIn K mainGlobals "set" = some none)
    (zb12 : PySem.W.nsIn K mainGlobals "zip" = some none)
    (zb13 : PySem.W.nsIn K mainGlobals "isinstance" = some none)
    (zb14 : PySem.W.nsIn K mainGlobals "range" = some none)
    (zb15 : PySem.W.nsIn K mainGlobals "enumerate" = some none)
    (zb16 : PySem.W.nsIn K mainGlobals "reversed" = some none)
    (zb17 : PySem.W.nsIn K mainGlobals "bool" = some none)
    : ∃ fa ca : List Addr, fa.getD 18 0 = fl ∧ SrcF src K mg fa ca ∧ ∀ fd, FunA K d18.name d18.qual d18.st fl fd → ∀ (s : Shared) (v : Value), BindsTo s fd ⟨[v], []⟩ [("_law_script", v)] := by
  have e := hfa.symm.trans (PySem.W.mg_of X G a18)
  cases e
  have F0 : Fun K d0.name d0.qual d0.st f0 _ := fun_mk (st := d0.st) l0 cc0 kk0
  have B0 := F0.binds (ps := d0.ps) fun _ _ _ _ _ _ us hl => match us, hl with | [_], _ => rfl
  have F1 : Fun K d1.name d1.qual d1.st f1 _ := fun_mk (st := d1.st) l1 cc1 kk1
  have B1 := F1.binds (ps := d1.ps) fun _ _ _ _ _ _ us hl => match us, hl with | [_, _], _ => rfl
  have F2 : Fun K d2.name d2.qual d2.st f2 _ := fun_mk (st := d2.st) l2 cc2 kk2
  have B2 := F2.binds (ps := d2.ps) fun _ _ _ _ _ _ us hl => match us, hl with | [_, _, _], _ => rfl
  have F3 : Fun K d3.name d3.qual d3.st f3 _ := fun_mk (st := d3.st) l3 cc3 kk3
  have B3 := F3.binds (ps := d3.ps) fun _ _ _ _ _ _ us hl => match us, hl with | [_, _], _ => rfl
  have F4 : Fun K d4.name d4.qual d4.st f4 _ := fun_mk (st := d4.st) l4 cc4 kk4
  have B4 := F4.binds (ps := d4.ps) fun _ _ _ _ _ _ us hl => match us, hl with | [_, _], _ => rfl
  have F5 : Fun K d5.name d5.qual d5.st f5 _ := fun_mk (st := d5.st) l5 cc5 kk5
  have B5 := F5.binds (ps := d5.ps) fun _ _ _ _ _ _ us hl => match us, hl with | [_, _], _ => rfl
  have F6 : Fun K d6.name d6.qual d6.st f6 _ := fun_mk (st := d6.st) l6 cc6 kk6
  have B6 := F6.binds (ps := d6.ps) fun _ _ _ _ _ _ us hl => match us, hl with | [_], _ => rfl
  have F7 : Fun K d7.name d7.qual d7.st f7 _ := fun_mk (st := d7.st) l7 cc7 kk7
  have B7 := F7.binds (ps := d7.ps) fun _ _ _ _ _ _ us hl => match us, hl with | [_, _], _ => rfl
  have F8 : Fun K d8.name d8.qual d8.st f8 _ := fun_mk (st := d8.st) l8 cc8 kk8
  have B8 := F8.binds (ps := d8.ps) fun _ _ _ _ _ _ us hl => match us, hl with | [_, _], _ => rfl
  have F9 : Fun K d9.name d9.qual d9.st f9 _ := fun_mk (st := d9.st) l9 cc9 kk9
  have B9 := F9.binds (ps := d9.ps) fun _ _ _ _ _ _ us hl => match us, hl with | [_, _], _ => rfl
  have F10 : Fun K d10.name d10.qual d10.st f10 _ := fun_mk (st := d10.st) l10 cc10 kk10
  have B10 := F10.binds (ps := d10.ps) fun _ _ _ _ _ _ us hl => match us, hl with | [_], _ => rfl
  have F11 : Fun K d11.name d11.qual d11.st f11 _ := fun_mk (st := d11.st) l11 cc11 kk11
  have B11 := F11.binds (ps := d11.ps) fun _ _ _ _ _ _ us hl => match us, hl with | [_], _ => rfl
  have F12 : Fun K d12.name d12.qual d12.st f12 _ := fun_mk (st := d12.st) l12 cc12 kk12
  have B12 := F12.binds (ps := d12.ps) fun _ _ _ _ _ _ us hl => match us, hl with | [_], _ => rfl
  have F13 : Fun K d13.name d13.qual d13.st f13 _ := fun_mk (st := d13.st) l13 cc13 kk13
  have B13 := F13.binds (ps := d13.ps) fun _ _ _ _ _ _ us hl => match us, hl with | [_], _ => rfl
  have F14 : Fun K d14.name d14.qual d14.st f14 _ := fun_mk (st := d14.st) l14 cc14 kk14
  have B14 := F14.binds (ps := d14.ps) fun _ _ _ _ _ _ us hl => match us, hl with | [_], _ => rfl
  have F15 : Fun K d15.name d15.qual d15.st f15 _ := fun_mk (st := d15.st) l15 cc15 kk15
  have B15 := F15.binds (ps := d15.ps) fun _ _ _ _ _ _ us hl => match us, hl with | [_], _ => rfl
  have F16 : Fun K d16.name d16.qual d16.st f16 _ := fun_mk (st := d16.st) l16 cc16 kk16
  have B16 := F16.binds (ps := d16.ps) fun _ _ _ _ _ _ us hl => match us, hl with | [_, _, _], _ => rfl
  have F17 : Fun K d17.name d17.qual d17.st f17 _ := fun_mk (st := d17.st) l17 cc17 kk17
  have B17 := F17.binds (ps := d17.ps) fun _ _ _ _ _ _ us hl => match us, hl with | [_, _], _ => rfl
  have F18 : Fun K d18.name d18.qual d18.st fl _ := fun_mk (st := d18.st) l18 cc18 kk18
  have B18 := F18.binds (ps := d18.ps) fun _ _ _ _ _ _ us hl => match us, hl with | [_], _ => rfl
  have C5 : Cls K c5 := ⟨pg5, hd5, po5, sa5⟩
  have C6 : Cls K c6 := ⟨pg6, hd6, po6, sa6⟩
  have C7 : Cls K c7 := ⟨pg7, hd7, po7, sa7⟩
  have C8 : Cls K c8 := ⟨pg8, hd8, po8, sa8⟩
  have C9 : Cls K c9 := ⟨pg9, hd9, po9, sa9⟩
  have C10 : Cls K c10 := ⟨pg10, hd10, po10, sa10⟩
  have C11 : Cls K c11 := ⟨pg11, hd11, po11, sa11⟩
  refine ⟨[f0, f1, f2, f3, f4, f5, f6, f7, f8, f9, f10, f11, f12, f13, f14, f15, f16, f17, fl], [0, x1, x2, x3, x4, c5, c6, c7, c8, c9, c10, c11], rfl, ?_, fun fd Fd s v => ?_⟩
  · exact {
      fn := ⟨⟨_, L2.Fun.a F0, B0, fun z => absurd rfl z⟩, ⟨_, L2.Fun.a F1, B1, fun z => absurd rfl z⟩, ⟨_, L2.Fun.a F2, B2, fun z => absurd rfl z⟩, ⟨_, L2.Fun.a F3, B3, fun z => absurd rfl z⟩, ⟨_, L2.Fun.a F4, B4, fun z => absurd rfl z⟩, ⟨_, L2.Fun.a F5, B5, fun z => absurd rfl z⟩, ⟨_, L2.Fun.a F6, B6, fun z => absurd rfl z⟩, ⟨_, L2.Fun.a F7, B7, fun z => absurd rfl z⟩, ⟨_, L2.Fun.a F8, B8, fun z => absurd rfl z⟩, ⟨_, L2.Fun.a F9, B9, fun z => absurd rfl z⟩, ⟨_, L2.Fun.a F10, B10, fun z => absurd rfl z⟩, ⟨_, L2.Fun.a F11, B11, fun z => absurd rfl z⟩, ⟨_, L2.Fun.a F12, B12, fun z => absurd rfl z⟩, ⟨_, L2.Fun.a F13, B13, fun z => absurd rfl z⟩, ⟨_, L2.Fun.a F14, B14, fun z => absurd rfl z⟩, ⟨_, L2.Fun.a F15, B15, fun z => absurd rfl z⟩, ⟨_, L2.Fun.a F16, B16, fun z => absurd rfl z⟩, ⟨_, L2.Fun.a F17, B17, fun z => absurd rfl z⟩, ⟨_, L2.Fun.a F18, B18, fun z => absurd rfl z⟩, trivial⟩
      ini := ⟨⟨⟨mk5, ai5, fn5, kc5⟩, PySem.W.mg_of X G ac5⟩, ⟨⟨mk6, ai6, fn5, kc6⟩, PySem.W.mg_of X G ac6⟩, ⟨⟨mk7, ai7, fn5, kc7⟩, PySem.W.mg_of X G ac7⟩, ⟨⟨mk8, ai8, fn5, kc8⟩, PySem.W.mg_of X G ac8⟩, ⟨⟨mk9, ai9, fn5, kc9⟩, PySem.W.mg_of X G ac9⟩, ⟨⟨mk10, ai10, fn5, kc10⟩, PySem.W.mg_of X G ac10⟩, ⟨⟨mk11, ai11, fn5, kc11⟩, PySem.W.mg_of X G ac11⟩, trivial⟩
      mt := ⟨⟨C5, ⟨am5_3, fn7, kk7⟩⟩, ⟨C6, ⟨am6_3, fn7, kk7⟩⟩, ⟨C7, ⟨am7_3, fn7, kk7⟩⟩, ⟨C8, ⟨am8_3, fn7, kk7⟩⟩, ⟨C9, ⟨am9_3, fn7, kk7⟩⟩, ⟨C10, ⟨am10_3, fn7, kk7⟩⟩, ⟨C11, ⟨am11_3, fn8, kk8⟩⟩, trivial⟩
      fl := ⟨⟨C5, nf5_2⟩, ⟨C6, nf6_2⟩, ⟨C7, nf7_2⟩, ⟨C8, nf8_2⟩, ⟨C9, nf9_2⟩, ⟨C10, nf10_2⟩, ⟨C11, nf11_2⟩, trivial⟩
      top := ⟨PySem.W.mg_of X G a0, PySem.W.mg_of X G a1, PySem.W.mg_of X G a3, PySem.W.mg_of X G a4, PySem.W.mg_of X G a6, PySem.W.mg_of X G a9, PySem.W.mg_of X G a10, PySem.W.mg_of X G a11, PySem.W.mg_of X G a12, PySem.W.mg_of X G a13, PySem.W.mg_of X G a14, PySem.W.mg_of X G a15, PySem.W.mg_of X G a16, PySem.W.mg_of X G a17, PySem.W.mg_of X G a18, trivial⟩
      gv := ⟨⟨_, PySem.W.mg_of X G zi0, _, rfl⟩, ⟨_, PySem.W.mg_of X G zi1, _, rfl⟩, ⟨_, PySem.W.mg_of X G zi2, _, rfl⟩, trivial⟩
      xc := ⟨⟨⟨PySem.W.mg_of X G xa1, xk1, xb1, xt1, ⟨xg1, xh1, xb1, xd1, xc1, xn, xT, xm1⟩⟩, kit_ve xv1⟩, ⟨⟨PySem.W.mg_of X G xa2, xk2, xb2, xt2, ⟨xg2, xh2, xb2, xd2, xc2, xn, xT, xm2⟩⟩, kit_ve xv2⟩, ⟨⟨PySem.W.mg_of X G xa3, xk3, xb3, xt3, ⟨xg3, xh3, xb3, xd3, xc3, xn, xT, xm3⟩⟩, kit_ve xv3⟩, ⟨⟨PySem.W.mg_of X G xa4, xk4, xb4, xt4, ⟨xg4, xh4, xb4, xd4, xc4, xn, xT, xm4⟩⟩, kit_ve xv4⟩, trivial⟩
      xb := ⟨fun _ => ⟨_, _, _, _, PySem.F.excBase_ValueError, xi1⟩, fun _ => ⟨_, _, _, _, PySem.F.excBase_ValueError, xi2⟩, fun z => absurd z (by decide), fun _ => ⟨_, _, _, _, PySem.F.excBase_ValueError, xi4⟩, trivial⟩
      xi := ⟨⟨oexC_of xo3 xd3 xy3 xb3 xt3 xk3, PySem.W.mg_of X G xa3, xj3, xz3, d2, rfl, by decide +kernel⟩, trivial⟩
      xl := ⟨⟨⟨xg3, xh3, xb3, xd3⟩, ⟨xf3_0, xf3_1, trivial⟩⟩, trivial⟩
      xs := ⟨⟨⟨xs1_1, kit_ref xs1_1 xd1 xt1 xs1_1⟩, ⟨xs1_2, kit_ref xs1_2 xd2 xt2 xs1_1⟩, ⟨xs1_3, kit_ref xs1_3 xd3 xt3 xs1_1⟩, ⟨xs1_4, kit_ref xs1_4 xd4 xt4 xs1_1⟩, trivial⟩, ⟨⟨xs2_1, kit_ref xs2_1 xd1 xt1 xs2_2⟩, ⟨xs2_2, kit_ref xs2_2 xd2 xt2 xs2_2⟩, ⟨xs2_3, kit_ref xs2_3 xd3 xt3 xs2_2⟩, ⟨xs2_4, kit_ref xs2_4 xd4 xt4 xs2_2⟩, trivial⟩, ⟨⟨xs3_1, kit_ref xs3_1 xd1 xt1 xs3_3⟩, ⟨xs3_2, kit_ref xs3_2 xd2 xt2 xs3_3⟩, ⟨xs3_3, kit_ref xs3_3 xd3 xt3 xs3_3⟩, ⟨xs3_4, kit_ref xs3_4 xd4 xt4 xs3_3⟩, trivial⟩, ⟨⟨xs4_1, kit_ref xs4_1 xd1 xt1 xs4_4⟩, ⟨xs4_2, kit_ref xs4_2 xd2 xt2 xs4_4⟩, ⟨xs4_3, kit_ref xs4_3 xd3 xt3 xs4_4⟩, ⟨xs4_4, kit_ref xs4_4 xd4 xt4 xs4_4⟩, trivial⟩, trivial⟩
      bl := ⟨PySem.W.mg_none_of X G zb0, PySem.W.mg_none_of X G zb1, PySem.W.mg_none_of X G zb2, PySem.W.mg_none_of X G zb3, PySem.W.mg_none_of X G zb4, PySem.W.mg_none_of X G zb5, PySem.W.mg_none_of X G zb6, PySem.W.mg_none_of X G zb7, PySem.W.mg_none_of X G zb8, PySem.W.mg_none_of X G zb9, PySem.W.mg_none_of X G zb10, PySem.W.mg_none_of X G zb11, PySem.W.mg_none_of X G zb12, PySem.W.mg_none_of X G zb13, PySem.W.mg_none_of X G zb14, PySem.W.mg_none_of X G zb15, PySem.W.mg_none_of X G zb16, PySem.W.mg_none_of X G zb17, trivial⟩ }
  · obtain ⟨⟨oc, od, dV, kV, doc, pm, an, cdv, ct, osl, rfl, lk, _⟩, _⟩ := Fd
    have z := lk.symm.trans l18
    cases z
    exact .of_eq rfl
end Law13
open PySem PySem.W PyProof.Rows
set_option maxRecDepth 100000 in
set_option maxHeartbeats 0 in
theorem PySem.Challenge.cw_traylate_k13_programs_shown_holds : PySem.Challenge.rw_traylate_k13_programs_shown.Holds := by
  w_on; o_law
  refine PySem.Challenge.hd_traylate_k13_programs_shown.run PySem.Challenge.hdA_traylate_k13_programs_shown PySem.Challenge.hdB_traylate_k13_programs_shown PySem.Challenge.hdC_traylate_k13_programs_shown PySem.Challenge.hdD_traylate_k13_programs_shown PySem.Challenge.hdE_traylate_k13_programs_shown ?_ (by assumption)
  delta PySem.Challenge.hd_traylate_k13_programs_shown
  dsimp only
  as_aux_lemma =>
    k_fill
    refine L2.Mini.walk (l := PySem.Challenge.rw_traylate_k13_programs_shown) (S := Law13.src) (n := 63) (m := 18) (d := Law13.d18) (x := "_law_script") rfl (by decide) rfl ⟨rfl, by decide, by decide⟩ (fun w h Y => PySem.W.kIn_of Y) Law13.nm_ok Law13.chk_ok rfl rfl Law13.law_true ?F
    case F =>
      intro w mg fl h KX G hmg
      refine' Law13.all_mk KX G hmg ?a0 ?a1 ?a3 ?a4 ?a6 ?a9 ?a10 ?a11 ?a12 ?a13 ?a14 ?a15 ?a16 ?a17 ?a18 ?ac5 ?ac6 ?ac7 ?ac8 ?ac9 ?ac10 ?ac11 ?ai5 ?ai6 ?ai7 ?ai8 ?ai9 ?ai10 ?ai11 ?am5_3 ?am6_3 ?am7_3 ?am8_3 ?am9_3 ?am10_3 ?am11_3 ?l0 ?cc0 ?kk0 ?l1 ?cc1 ?kk1 ?l2 ?cc2 ?kk2 ?l3 ?cc3 ?kk3 ?l4 ?cc4 ?kk4 ?l5 ?cc5 ?kk5 ?l6 ?cc6 ?kk6 ?l7 ?cc7 ?kk7 ?l8 ?cc8 ?kk8 ?l9 ?cc9 ?kk9 ?l10 ?cc10 ?kk10 ?l11 ?cc11 ?kk11 ?l12 ?cc12 ?kk12 ?l13 ?cc13 ?kk13 ?l14 ?cc14 ?kk14 ?l15 ?cc15 ?kk15 ?l16 ?cc16 ?kk16 ?l17 ?cc17 ?kk17 ?l18 ?cc18 ?kk18 ?fn5 ?fn7 ?fn8 ?pg5 ?hd5 ?po5 ?sa5 ?mk5 ?kc5 ?pg6 ?hd6 ?po6 ?sa6 ?mk6 ?kc6 ?pg7 ?hd7 ?po7 ?sa7 ?mk7 ?kc7 ?pg8 ?hd8 ?po8 ?sa8 ?mk8 ?kc8 ?pg9 ?hd9 ?po9 ?sa9 ?mk9 ?kc9 ?pg10 ?hd10 ?po10 ?sa10 ?mk10 ?kc10 ?pg11 ?hd11 ?po11 ?sa11 ?mk11 ?kc11 ?nf5_2 ?nf6_2 ?nf7_2 ?nf8_2 ?nf9_2 ?nf10_2 ?nf11_2 ?xa1 ?xi1 ?xk1 ?xb1 ?xt1 ?xg1 ?xh1 ?xd1 ?xc1 ?xm1 ?xv1 ?xs1_1 ?xs1_2 ?xs1_3 ?xs1_4 ?xa2 ?xi2 ?xk2 ?xb2 ?xt2 ?xg2 ?xh2 ?xd2 ?xc2 ?xm2 ?xv2 ?xs2_1 ?xs2_2 ?xs2_3 ?xs2_4 ?xa3 ?xo3 ?xy3 ?xk3 ?xb3 ?xt3 ?xg3 ?xh3 ?xd3 ?xc3 ?xm3 ?xv3 ?xs3_1 ?xs3_2 ?xs3_3 ?xs3_4 ?xa4 ?xi4 ?xk4 ?xb4 ?xt4 ?xg4 ?xh4 ?xd4 ?xc4 ?xm4 ?xv4 ?xs4_1 ?xs4_2 ?xs4_3 ?xs4_4 ?xf3_0 ?xf3_1 ?xj3 ?xz3 ?xn ?xT ?zi0 ?zi1 ?zi2 ?zb0 ?zb1 ?zb2 ?zb3 ?zb4 ?zb5 ?zb6 ?zb7 ?zb8 ?zb9 ?zb10 ?zb11 ?zb12 ?zb13 ?zb14 ?zb15 ?zb16 ?zb17
      (case xa1 => k_is)
      (case xa2 => k_is)
      (case xa3 => k_is)
      (case xa4 => k_is)
      (case xj3 => k_is)
      (case a0 => k_is)
      (case a1 => k_is)
      (case a3 => k_is)
      (case a4 => k_is)
      (case a6 => k_is)
      (case a9 => k_is)
      (case a10 => k_is)
      (case a11 => k_is)
      (case a12 => k_is)
      (case a13 => k_is)
      (case a14 => k_is)
      (case a15 => k_is)
      (case a16 => k_is)
      (case a17 => k_is)
      (case a18 => k_is)
      (case ac5 => k_is)
      (case ac6 => k_is)
      (case ac7 => k_is)
      (case ac8 => k_is)
      (case ac9 => k_is)
      (case ac10 => k_is)
      (case ac11 => k_is)
      (case ai5 => k_is)
      (case ai6 => k_is)
      (case ai7 => k_is)
      (case ai8 => k_is)
      (case ai9 => k_is)
      (case ai10 => k_is)
      (case ai11 => k_is)
      (case am5_3 => k_is)
      (case am6_3 => k_is)
      (case am7_3 => k_is)
      (case am8_3 => k_is)
      (case am9_3 => k_is)
      (case am10_3 => k_is)
      (case am11_3 => k_is)
      (case l0 => k_is)
      (case cc0 => k_is)
      (case kk0 => k_is)
      (case l1 => k_is)
      (case cc1 => k_is)
      (case kk1 => k_is)
      (case l2 => k_is)
      (case cc2 => k_is)
      (case kk2 => k_is)
      (case l3 => k_is)
      (case cc3 => k_is)
      (case kk3 => k_is)
      (case l4 => k_is)
      (case cc4 => k_is)
      (case kk4 => k_is)
      (case l5 => k_is)
      (case cc5 => k_is)
      (case kk5 => k_is)
      (case l6 => k_is)
      (case cc6 => k_is)
      (case kk6 => k_is)
      (case l7 => k_is)
      (case cc7 => k_is)
      (case kk7 => k_is)
      (case l8 => k_is)
      (case cc8 => k_is)
      (case kk8 => k_is)
      (case l9 => k_is)
      (case cc9 => k_is)
      (case kk9 => k_is)
      (case l10 => k_is)
      (case cc10 => k_is)
      (case kk10 => k_is)
      (case l11 => k_is)
      (case cc11 => k_is)
      (case kk11 => k_is)
      (case l12 => k_is)
      (case cc12 => k_is)
      (case kk12 => k_is)
      (case l13 => k_is)
      (case cc13 => k_is)
      (case kk13 => k_is)
      (case l14 => k_is)
      (case cc14 => k_is)
      (case kk14 => k_is)
      (case l15 => k_is)
      (case cc15 => k_is)
      (case kk15 => k_is)
      (case l16 => k_is)
      (case cc16 => k_is)
      (case kk16 => k_is)
      (case l17 => k_is)
      (case cc17 => k_is)
      (case kk17 => k_is)
      (case l18 => k_is)
      (case cc18 => k_is)
      (case kk18 => k_is)
      (case fn5 => k_is)
      (case fn7 => k_is)
      (case fn8 => k_is)
      (case pg5 => k_is)
      (case hd5 => k_is)
      (case po5 => k_is)
      (case sa5 => k_is)
      (case mk5 => k_is)
      (case kc5 => k_is)
      (case pg6 => k_is)
      (case hd6 => k_is)
      (case po6 => k_is)
      (case sa6 => k_is)
      (case mk6 => k_is)
      (case kc6 => k_is)
      (case pg7 => k_is)
      (case hd7 => k_is)
      (case po7 => k_is)
      (case sa7 => k_is)
      (case mk7 => k_is)
      (case kc7 => k_is)
      (case pg8 => k_is)
      (case hd8 => k_is)
      (case po8 => k_is)
      (case sa8 => k_is)
      (case mk8 => k_is)
      (case kc8 => k_is)
      (case pg9 => k_is)
      (case hd9 => k_is)
      (case po9 => k_is)
      (case sa9 => k_is)
      (case mk9 => k_is)
      (case kc9 => k_is)
      (case pg10 => k_is)
      (case hd10 => k_is)
      (case po10 => k_is)
      (case sa10 => k_is)
      (case mk10 => k_is)
      (case kc10 => k_is)
      (case pg11 => k_is)
      (case hd11 => k_is)
      (case po11 => k_is)
      (case sa11 => k_is)
      (case mk11 => k_is)
      (case kc11 => k_is)
      (case nf5_2 => k_is)
      (case nf6_2 => k_is)
      (case nf7_2 => k_is)
      (case nf8_2 => k_is)
      (case nf9_2 => k_is)
      (case nf10_2 => k_is)
      (case nf11_2 => k_is)
      (case xi1 => k_exc)
      (case xk1 => k_is)
      (case xb1 => k_is)
      (case xt1 => k_is)
      (case xg1 => k_is)
      (case xh1 => k_is)
      (case xd1 => k_is)
      (case xc1 => k_is)
      (case xm1 => k_is)
      (case xv1 => k_is)
      (case xs1_1 => k_is)
      (case xs1_2 => k_is)
      (case xs1_3 => k_is)
      (case xs1_4 => k_is)
      (case xi2 => k_exc)
      (case xk2 => k_is)
      (case xb2 => k_is)
      (case xt2 => k_is)
      (case xg2 => k_is)
      (case xh2 => k_is)
      (case xd2 => k_is)
      (case xc2 => k_is)
      (case xm2 => k_is)
      (case xv2 => k_is)
      (case xs2_1 => k_is)
      (case xs2_2 => k_is)
      (case xs2_3 => k_is)
      (case xs2_4 => k_is)
      (case xo3 => kx_is)
      (case xy3 => k_is)
      (case xk3 => k_is)
      (case xb3 => k_is)
      (case xt3 => k_is)
      (case xg3 => k_is)
      (case xh3 => k_is)
      (case xd3 => k_is)
      (case xc3 => k_is)
      (case xm3 => k_is)
      (case xv3 => k_is)
      (case xs3_1 => k_is)
      (case xs3_2 => k_is)
      (case xs3_3 => k_is)
      (case xs3_4 => k_is)
      (case xi4 => k_exc)
      (case xk4 => k_is)
      (case xb4 => k_is)
      (case xt4 => k_is)
      (case xg4 => k_is)
      (case xh4 => k_is)
      (case xd4 => k_is)
      (case xc4 => k_is)
      (case xm4 => k_is)
      (case xv4 => k_is)
      (case xs4_1 => k_is)
      (case xs4_2 => k_is)
      (case xs4_3 => k_is)
      (case xs4_4 => k_is)
      (case xf3_0 => k_is)
      (case xf3_1 => k_is)
      (case xz3 => k_is)
      (case xn => k_is)
      (case xT => k_is)
      (case zi0 => k_is)
      (case zi1 => k_is)
      (case zi2 => k_is)
      (case zb0 => k_is)
      (case zb1 => k_is)
      (case zb2 => k_is)
      (case zb3 => k_is)
      (case zb4 => k_is)
      (case zb5 => k_is)
      (case zb6 => k_is)
      (case zb7 => k_is)
      (case zb8 => k_is)
      (case zb9 => k_is)
      (case zb10 => k_is)
      (case zb11 => k_is)
      (case zb12 => k_is)
      (case zb13 => k_is)
      (case zb14 => k_is)
      (case zb15 => k_is)
      (case zb16 => k_is)
      (case zb17 => k_is)
