import PyProof.Rows.All
import Wide.All
import OpenK.AllK
import Wide.FinOn
import Open.SpecLaws
import KE.OsGo
import HandS.ForSpec
import HandS.ForMost
import HandS.SortInts
import HandS.Zip
import HandS.Style
import HandS.Conv
import HandS.SetFor
import PyProof.NeKinds
import PySem.Challenge.RW_undobranches_s01_answers
set_option Elab.async false
set_option linter.all false
set_option maxRecDepth 100000
set_option maxHeartbeats 4000000
/-! # The mirror: the program's data and operations as total functions over plain lists -/
namespace Ub
abbrev Chg := Ue03.Change
structure Nd where
  number : Nat
  parent : Option Nat
  changes : List Chg
  text : List Nat
  time : Nat
  kept : Bool
  children : List Nat
  visited : Option Nat
structure Tr where
  nodes : List Nd
  root : Nat
  current : Nat
  coming : Nat
def Tr.find (T : Tr) (k : Nat) : Option Nd := T.nodes.find? fun x => x.number == k
def Tr.has (T : Tr) (k : Nat) : Bool := (T.find k).isSome
def Tr.nums (T : Tr) : List Nat := T.nodes.map fun x => x.number
def Tr.upd (T : Tr) (k : Nat) (f : Nd → Nd) : Tr := { T with nodes := T.nodes.map fun x => if x.number = k then f x else x }
def Tr.fresh (t : List Nat) : Tr := ⟨[⟨0, none, [], t, 0, false, [], none⟩], 0, 0, 1⟩
def Nd.preferred (x : Nd) : Nat := match x.visited with
  | some v => if x.children.contains v = true then v else x.children.getLastD 0
  | none => x.children.getLastD 0
/-- the way up; the first number is fuel -/
def up : Nat → Tr → Nat → List Nat
  | 0, _, n => [n]
  | f + 1, T, n => if n = T.root then [n] else match (T.find n).bind fun x => x.parent with
    | some p => n :: up f T p
    | none => [n]
def wayTo (T : Tr) (n : Nat) : List Nat := (up n T n).reverse
def setVis (v : Nat) (x : Nd) : Nd := { x with visited := some v }
def setKept (b : Bool) (x : Nd) : Nd := { x with kept := b }
def addKid (n : Nat) (x : Nd) : Nd := { x with children := x.children ++ [n], visited := some n }
def delKid (n : Nat) (x : Nd) : Nd := { x with children := x.children.erase n }
def toRoot (x : Nd) : Nd := { x with parent := none, changes := [] }
def newNd (T : Tr) (cs : List Chg) (t : List Nat) (time : Nat) : Nd := ⟨T.coming, some T.current, cs, t, time, false, [], none⟩
def create (T : Tr) (cs : List Chg) (t : List Nat) (time : Nat) : Tr :=
  { Tr.upd { T with nodes := T.nodes ++ [newNd T cs t time], coming := T.coming + 1 } T.current (addKid T.coming) with current := T.coming }
def mark (T : Tr) (l : List (Nat × Nat)) : Tr := l.foldl (fun T p => T.upd p.1 (setVis p.2)) T
def visit (T : Tr) (n : Nat) : Tr := { mark T ((wayTo T n).zip (wayTo T n).tail) with current := n }
def takeAway (T : Tr) (n : Nat) : Tr := match (T.find n).bind fun x => x.parent with
  | some p => { T.upd p (delKid n) with nodes := (T.upd p (delKid n)).nodes.filter fun x => x.number != n }
  | none => T
def takeRoot (T : Tr) : Tr := match (T.find T.root).bind fun x => x.children.head? with
  | some c => { T.upd c toRoot with root := c, nodes := (T.upd c toRoot).nodes.filter fun x => x.number != T.root }
  | none => T
def mayGo (T : Tr) (x : Nd) : Bool := x.children.isEmpty && (!x.kept && (x.number != T.root && x.number != T.current))
def leavesToGo (T : Tr) : List Nat := (T.nodes.filter (mayGo T)).map fun x => x.number
def mayRootGo (T : Tr) : Bool := match T.find T.root with
  | some r => T.root != T.current && (!r.kept && r.children.length == 1)
  | none => false
def woLeaves : Nat → Tr → Nat → List Nat → Tr × List Nat
  | 0, T, _, gone => (T, gone)
  | f + 1, T, n, gone => if T.nodes.length ≤ n then (T, gone) else match leavesToGo T with
    | [] => (T, gone)
    | x :: _ => woLeaves f (takeAway T x) n (gone ++ [x])
def woRoots : Nat → Tr → Nat → List Nat → Tr × List Nat
  | 0, T, _, gone => (T, gone)
  | f + 1, T, n, gone => if T.nodes.length ≤ n then (T, gone) else if mayRootGo T = true then woRoots f (takeRoot T) n (gone ++ [T.root]) else (T, gone)
def forgetT (T : Tr) (n : Nat) : Tr × List Nat :=
  let x := woLeaves T.nodes.length T n []
  let y := woRoots x.1.nodes.length x.1 n []
  (y.1, x.2 ++ y.2)
def shared : List Nat → List Nat → Nat
  | a :: l, b :: m => if a = b then shared l m + 1 else 0
  | _, _ => 0
def pathOf (T : Tr) (a b : Nat) : List Nat :=
  ((wayTo T a).drop (shared (wayTo T a) (wayTo T b) - 1)).reverse ++ (wayTo T b).drop (shared (wayTo T a) (wayTo T b))
def stepsUp (T : Tr) (a b : Nat) : Nat := (wayTo T a).length - shared (wayTo T a) (wayTo T b)
def stepsDown (T : Tr) (a b : Nat) : Nat := (wayTo T b).length - shared (wayTo T a) (wayTo T b)
def textOf (T : Tr) (n : Nat) : List Nat := match T.find n with
  | some x => x.text
  | none => []
def changesOf (T : Tr) (n : Nat) : List Chg := match T.find n with
  | some x => x.changes
  | none => []
def originsBehind (found : List Nat) (n : Nat) (cs : List Chg) : List Nat := cs.foldl (fun f c => Ue03.put f c.at_ c.out (List.replicate c.in_.length n)) found
def originsOf (T : Tr) : List Nat := (wayTo T T.current).tail.foldl (fun found n => originsBehind found n (changesOf T n)) (List.replicate (textOf T T.root).length T.root)
def startBehind (start size : Nat) (c : Chg) : Option Nat := if start + size ≤ c.at_ then some start else if c.at_ + c.out ≤ start then some (start + c.in_.length - c.out) else none
def startBehindAll (size : Nat) : Nat → List Chg → Option Nat
  | start, [] => some start
  | start, c :: l => match startBehind start size c with
    | some s => startBehindAll size s l
    | none => none
def changesBehind (T : Tr) (n : Nat) : List Chg := ((wayTo T T.current).drop ((wayTo T T.current).idxOf n + 1)).flatMap (changesOf T)
def cutOut (t : List Nat) (c : Chg) : List Nat := (t.drop c.at_).take c.out
def reverting (T : Tr) (x : Nd) (p : Nat) (c : Chg) : Option Chg := match startBehindAll c.in_.length c.at_ (changesBehind T x.number) with
  | some s => some ⟨s, c.in_.length, cutOut (textOf T p) c⟩
  | none => none
structure Se where
  tree : Tr
  clock : Nat
  group : Option (List Chg × List Nat)
def Se.init : Se := ⟨Tr.fresh [], 0, none⟩
def Se.textNow (M : Se) : List Nat := match M.group with
  | some g => g.2
  | none => textOf M.tree M.tree.current
abbrev Ans := Se × List Int
def asInts (l : List Nat) : List Int := l.map fun (n : Nat) => (n : Int)
def areBytes (t : List Nat) : Bool := t.all fun b => decide (b ≤ 255)
def oStart (M : Se) (row : List Nat) : Ans := if 300 < row.length ∨ areBytes row = false then (M, [-1]) else (⟨Tr.fresh row, 0, none⟩, asInts [row.length])
def oWait (M : Se) (t : Nat) : Ans := if 1000000 < M.clock + t then (M, [-1]) else ({ M with clock := M.clock + t }, asInts [M.clock + t])
def oChange (M : Se) (p o : Nat) (row : List Nat) : Ans :=
  let later := Ue03.changed M.textNow ⟨p, o, row⟩
  if M.textNow.length < p + o ∨ areBytes row = false then (M, [-1]) else if 300 < later.length then (M, [-6]) else match M.group with
    | none => ({ M with tree := create M.tree [⟨p, o, row⟩] later M.clock }, asInts [M.tree.coming, later.length])
    | some g => ({ M with group := some (g.1 ++ [⟨p, o, row⟩], later) }, asInts [M.tree.coming, later.length])
def oOpen (M : Se) : Ans := match M.group with
  | some _ => (M, [-9])
  | none => ({ M with group := some ([], textOf M.tree M.tree.current) }, asInts [M.tree.coming])
def oClose (M : Se) : Ans := match M.group with
  | none => (M, [-9])
  | some g => if g.1.isEmpty = true then ({ M with group := none }, asInts [M.tree.current]) else ({ M with tree := create M.tree g.1 g.2 M.clock, group := none }, asInts [M.tree.coming])
def toldHere (T : Tr) : List Int := asInts [T.current, (textOf T T.current).length]
def alone (M : Se) (x : Ans) : Ans := if M.group.isSome = true then (M, [-9]) else x
def oUndo (M : Se) : Ans := alone M (if M.tree.current = M.tree.root then (M, [-7]) else match (M.tree.find M.tree.current).bind fun x => x.parent with
  | some p => ({ M with tree := { M.tree with current := p } }, toldHere { M.tree with current := p })
  | none => (M, []))
def redoT (T : Tr) (x : Nd) : Tr := { T.upd T.current (setVis x.preferred) with current := x.preferred }
def oRedo (M : Se) : Ans := alone M (match M.tree.find M.tree.current with
  | some x => if x.children.isEmpty = true then (M, [-7]) else ({ M with tree := redoT M.tree x }, toldHere (redoT M.tree x))
  | none => (M, []))
/-- to a state: the tree behind, the steps, the length -/
def movedTo (M : Se) (n : Nat) : Ans := ({ M with tree := visit M.tree n }, asInts [stepsUp M.tree M.tree.current n, stepsDown M.tree M.tree.current n, (textOf M.tree n).length])
def oGoto (M : Se) (n : Nat) : Ans := alone M (if M.tree.has n = true then movedTo M n else (M, [-2]))
def movedAmong (M : Se) (l : List Nat) (n : Nat) : Ans := alone M (if n = 0 then (M, [-1]) else match l[n - 1]? with
  | some k => ((movedTo M k).1, (k : Int) :: (movedTo M k).2)
  | none => (M, [-7]))
def oEarlier (M : Se) (n : Nat) : Ans := movedAmong M (M.tree.nums.filter fun k => decide (k < M.tree.current)).reverse n
def oLater (M : Se) (n : Nat) : Ans := movedAmong M (M.tree.nums.filter fun k => decide (M.tree.current < k)) n
def agoL (M : Se) (t : Nat) : List Nat := (M.tree.nodes.filter fun x => decide (x.time + t ≤ M.clock)).map fun x => x.number
def oAgo (M : Se) (t : Nat) : Ans := movedAmong M (agoL M t).reverse 1
def oShows (M : Se) : Ans := (M, (M.textNow.length : Int) :: asInts M.textNow)
def encP : Option Nat → Int
  | some p => p
  | none => -1
def oInfo (M : Se) (n : Nat) : Ans := match M.tree.find n with
  | none => (M, [-2])
  | some x => (M, [encP x.parent + 1, (x.time : Int), ((wayTo M.tree n).length : Int) - 1, if x.kept = true then 1 else 0, (x.changes.length : Int), (x.children.length : Int)] ++ asInts x.children)
def leavesL (T : Tr) : List Nat := (T.nodes.filter fun x => x.children.isEmpty).map fun x => x.number
def oLeaves (M : Se) : Ans := (M, ((leavesL M.tree).length : Int) :: asInts (leavesL M.tree))
def oPath (M : Se) (a b : Nat) : Ans := if M.tree.has a = true ∧ M.tree.has b = true then (M, ((pathOf M.tree a b).length : Int) :: asInts (pathOf M.tree a b)) else (M, [-2])
def oOrigins (M : Se) : Ans := alone M (M, ((originsOf M.tree).length : Int) :: asInts (originsOf M.tree))
def oRevert (M : Se) (n : Nat) : Ans := alone M (match M.tree.find n with
  | none => (M, [-2])
  | some x => if n = M.tree.root ∨ (wayTo M.tree M.tree.current).contains n = false then (M, [-6]) else match x.changes with
    | [] => (M, [])
    | c :: l => if l.isEmpty = false then (M, [-4]) else match x.parent with
      | none => (M, [])
      | some p => match reverting M.tree x p c with
        | none => (M, [-8])
        | some d =>
          let later := Ue03.changed (textOf M.tree M.tree.current) d
          if 300 < later.length then (M, [-5]) else ({ M with tree := create M.tree [d] later M.clock }, asInts [M.tree.coming, later.length]))
def oKeep (M : Se) (n : Nat) (b : Bool) : Ans := if M.tree.has n = true then ({ M with tree := M.tree.upd n (setKept b) }, [0]) else (M, [-2])
def oForget (M : Se) (n : Nat) : Ans := alone M (if n = 0 then (M, [-1]) else ({ M with tree := (forgetT M.tree n).1 }, ((forgetT M.tree n).2.length : Int) :: asInts (forgetT M.tree n).2))
def oText (M : Se) (n : Nat) : Ans := if M.tree.has n = true then (M, ((textOf M.tree n).length : Int) :: asInts (textOf M.tree n)) else (M, [-2])
def stepM (M : Se) : Ue03.Call → Ans
  | .begins t => oStart M t
  | .wait t => oWait M t
  | .change c => oChange M c.at_ c.out c.in_
  | .open_ => oOpen M
  | .close => oClose M
  | .undo => oUndo M
  | .redo => oRedo M
  | .goto n => oGoto M n
  | .earlier n => oEarlier M n
  | .later n => oLater M n
  | .ago t => oAgo M t
  | .shows => oShows M
  | .state n => oInfo M n
  | .ends => oLeaves M
  | .way a b => oPath M a b
  | .origin => oOrigins M
  | .takeback n => oRevert M n
  | .keep n k => oKeep M n k
  | .forget n => oForget M n
  | .text n => oText M n

/-! ### what holds of a tree -/
structure WF (T : Tr) : Prop where
  inc : T.nodes.Pairwise fun x y => x.number < y.number
  lt : ∀ x ∈ T.nodes, x.number < T.coming
  root : ∃ r, T.find T.root = some r ∧ r.parent = none
  up : ∀ x ∈ T.nodes, x.number ≠ T.root → ∃ p y, x.parent = some p ∧ p < x.number ∧ T.find p = some y ∧ x.text = x.changes.foldl Ue03.changed y.text ∧ x.changes ≠ []
  cur : ∃ c, T.find T.current = some c
  kids : ∀ x ∈ T.nodes, x.children = (T.nodes.filter fun y => y.parent == some x.number).map fun y => y.number
  len : ∀ x ∈ T.nodes, x.text.length ≤ 300
  ins : ∀ x ∈ T.nodes, ∀ c ∈ x.changes, c.in_.length ≤ 350
structure Bd (B : Nat) (T : Tr) : Prop where
  coming : T.coming ≤ B + 1
  many : ∀ x ∈ T.nodes, x.changes.length ≤ B
structure Good (M : Se) : Prop where
  wf : WF M.tree
  group : ∀ cs t, M.group = some (cs, t) → t = cs.foldl Ue03.changed (textOf M.tree M.tree.current) ∧ t.length ≤ 300 ∧ ∀ c ∈ cs, c.in_.length ≤ 350
structure GBd (B : Nat) (M : Se) : Prop where
  tree : Bd B M.tree
  group : ∀ cs t, M.group = some (cs, t) → cs.length ≤ B
end Ub
/-! # Trees: look-ups, ways, what keeps WF -/
namespace Ub
theorem find_of_mem {l : List Nd} (h : l.Pairwise fun x y => x.number < y.number) {x : Nd} (hx : x ∈ l) : l.find? (fun y => y.number == x.number) = some x := by
  induction l with
  | nil => cases hx
  | cons a l ih =>
    rw [List.find?_cons]
    rw [List.pairwise_cons] at h
    rcases List.mem_cons.mp hx with rfl | hm
    · simp
    · have := h.1 x hm
      have e : (a.number == x.number) = false := by simp; omega
      rw [e]
      exact ih h.2 hm
theorem mem_of_find {T : Tr} {k : Nat} {x : Nd} (h : T.find k = some x) : x ∈ T.nodes ∧ x.number = k := by
  unfold Tr.find at h
  exact ⟨List.mem_of_find?_eq_some h, by simpa using List.find?_some h⟩
theorem WF.find {T : Tr} (W : WF T) {x : Nd} (hx : x ∈ T.nodes) : T.find x.number = some x := find_of_mem W.inc hx
theorem find_iff {T : Tr} (W : WF T) {k : Nat} {x : Nd} : T.find k = some x ↔ x ∈ T.nodes ∧ x.number = k :=
  ⟨mem_of_find, fun ⟨h, e⟩ => e ▸ W.find h⟩
theorem find_none {T : Tr} {k : Nat} : T.find k = none ↔ ∀ x ∈ T.nodes, x.number ≠ k := by
  unfold Tr.find
  rw [List.find?_eq_none]
  simp
theorem uniq {T : Tr} (W : WF T) {x y : Nd} (hx : x ∈ T.nodes) (hy : y ∈ T.nodes) (e : x.number = y.number) : x = y := by
  have h1 := W.find hx
  rw [e, W.find hy] at h1
  exact (Option.some.inj h1).symm
theorem mem_nums {T : Tr} {k : Nat} : k ∈ T.nums ↔ ∃ x, T.find k = some x := by
  unfold Tr.nums
  rw [List.mem_map]
  constructor
  · rintro ⟨x, hx, rfl⟩
    cases h : T.find x.number with
    | some y => exact ⟨y, rfl⟩
    | none => exact absurd rfl (find_none.mp h x hx)
  · rintro ⟨x, hx⟩
    exact ⟨x, (mem_of_find hx).1, (mem_of_find hx).2⟩
theorem has_iff {T : Tr} {k : Nat} : T.has k = true ↔ ∃ x, T.find k = some x := by
  unfold Tr.has
  rw [Option.isSome_iff_exists]
theorem textOf_of {T : Tr} {k : Nat} {x : Nd} (h : T.find k = some x) : textOf T k = x.text := by
  unfold textOf
  rw [h]
theorem changesOf_of {T : Tr} {k : Nat} {x : Nd} (h : T.find k = some x) : changesOf T k = x.changes := by
  unfold changesOf
  rw [h]

/-! ### one state changed -/
def Numb (f : Nd → Nd) : Prop := ∀ x, (f x).number = x.number
theorem nb_vis (v : Nat) : Numb (setVis v) := fun _ => rfl
theorem nb_kept (v : Bool) : Numb (setKept v) := fun _ => rfl
theorem nb_add (v : Nat) : Numb (addKid v) := fun _ => rfl
theorem nb_del (v : Nat) : Numb (delKid v) := fun _ => rfl
theorem nb_root : Numb toRoot := fun _ => rfl
theorem ite_numb {f : Nd → Nd} (hf : Numb f) (k : Nat) (x : Nd) : (if x.number = k then f x else x).number = x.number := by
  by_cases h : x.number = k
  · rw [if_pos h, hf]
  · rw [if_neg h]
theorem find_upd {T : Tr} {f : Nd → Nd} (hf : Numb f) (k j : Nat) : (T.upd k f).find j = (T.find j).map fun x => if x.number = k then f x else x := by
  unfold Tr.find Tr.upd
  rw [List.find?_map]
  have e : ((fun x : Nd => x.number == j) ∘ fun x => if x.number = k then f x else x) = fun x : Nd => x.number == j := by
    funext x
    show ((if x.number = k then f x else x).number == j) = _
    rw [ite_numb hf]
  rw [e]
theorem find_upd_ne {T : Tr} {f : Nd → Nd} (hf : Numb f) {k j : Nat} (h : j ≠ k) : (T.upd k f).find j = T.find j := by
  rw [find_upd hf]
  cases e : T.find j with
  | none => rfl
  | some x =>
    have := (mem_of_find e).2
    rw [Option.map_some, if_neg (by omega)]
theorem find_upd_eq {T : Tr} {f : Nd → Nd} (hf : Numb f) {k : Nat} {x : Nd} (h : T.find k = some x) : (T.upd k f).find k = some (f x) := by
  rw [find_upd hf, h, Option.map_some, if_pos (mem_of_find h).2]
theorem nums_upd {T : Tr} {f : Nd → Nd} (hf : Numb f) (k : Nat) : (T.upd k f).nums = T.nums := by
  unfold Tr.nums Tr.upd
  rw [List.map_map]
  exact List.map_congr_left fun x _ => ite_numb hf k x
theorem inc_upd {T : Tr} {f : Nd → Nd} (hf : Numb f) {k : Nat} (h : T.nodes.Pairwise fun x y => x.number < y.number) : (T.upd k f).nodes.Pairwise fun x y => x.number < y.number := by
  unfold Tr.upd
  rw [List.pairwise_map]
  exact h.imp fun {a b} h => by rw [ite_numb hf, ite_numb hf]; exact h
theorem mem_upd {T : Tr} {f : Nd → Nd} {k : Nat} {y : Nd} (h : y ∈ (T.upd k f).nodes) : ∃ x ∈ T.nodes, y = if x.number = k then f x else x := by
  unfold Tr.upd at h
  obtain ⟨x, hx, e⟩ := List.mem_map.mp h
  exact ⟨x, hx, e.symm⟩

/-! ### ways -/
theorem WF.no_zero {T : Tr} (W : WF T) {x : Nd} (h : T.find 0 = some x) : T.root = 0 := by
  by_cases e : x.number = T.root
  · rw [← e, (mem_of_find h).2]
  · obtain ⟨p, y, _, l, _⟩ := W.up x (mem_of_find h).1 e
    rw [(mem_of_find h).2] at l
    omega
theorem up_fuel {T : Tr} (W : WF T) : ∀ (f f' n : Nat), n ≤ f → n ≤ f' → (∃ x, T.find n = some x) → Ub.up f T n = Ub.up f' T n
  | 0, 0, n, _, _, _ => rfl
  | 0, f' + 1, n, h, _, ⟨x, hx⟩ => by
    have e : n = 0 := by omega
    subst e
    have r := W.no_zero hx
    unfold Ub.up
    rw [if_pos r.symm]
  | f + 1, 0, n, _, h, ⟨x, hx⟩ => by
    have e : n = 0 := by omega
    subst e
    have r := W.no_zero hx
    unfold Ub.up
    rw [if_pos r.symm]
  | f + 1, f' + 1, n, h, h', ⟨x, hx⟩ => by
    unfold Ub.up
    by_cases r : n = T.root
    · rw [if_pos r, if_pos r]
    · rw [if_neg r, if_neg r, hx]
      obtain ⟨m, e⟩ := mem_of_find hx
      obtain ⟨p, y, hp, l, hy, _⟩ := W.up x m (by rw [e]; exact r)
      show (match x.parent with | some p => n :: Ub.up f T p | none => [n]) = (match x.parent with | some p => n :: Ub.up f' T p | none => [n])
      rw [hp]
      show n :: Ub.up f T p = n :: Ub.up f' T p
      rw [up_fuel W f f' p (by omega) (by omega) ⟨y, hy⟩]
theorem up_root {T : Tr} (f : Nat) : Ub.up f T T.root = [T.root] := by
  cases f with
  | zero => rfl
  | succ f =>
    unfold Ub.up
    rw [if_pos rfl]
theorem up_step {T : Tr} (W : WF T) {x : Nd} {n p : Nat} (hx : T.find n = some x) (r : n ≠ T.root) (hp : x.parent = some p) : Ub.up n T n = n :: Ub.up p T p := by
  obtain ⟨m, e⟩ := mem_of_find hx
  obtain ⟨p', y, hp', l, hy, _⟩ := W.up x m (by rw [e]; exact r)
  rw [hp] at hp'
  cases hp'
  obtain ⟨k, rfl⟩ : ∃ k, n = k + 1 := ⟨n - 1, by omega⟩
  conv => lhs; unfold Ub.up
  rw [if_neg r, hx]
  show (match x.parent with | some p => (k + 1) :: Ub.up k T p | none => [k + 1]) = _
  rw [hp]
  show (k + 1) :: Ub.up k T p = _
  rw [up_fuel W k p p (by omega) (Nat.le_refl _) ⟨y, hy⟩]
theorem way_root {T : Tr} : wayTo T T.root = [T.root] := by
  unfold wayTo
  rw [up_root]
  rfl
theorem way_step {T : Tr} (W : WF T) {x : Nd} {n p : Nat} (hx : T.find n = some x) (r : n ≠ T.root) (hp : x.parent = some p) : wayTo T n = wayTo T p ++ [n] := by
  unfold wayTo
  rw [up_step W hx r hp, List.reverse_cons]
/-- down from the root: what holds of the root and goes over from a parent to its child holds of all -/
theorem WF.ind {T : Tr} (W : WF T) {P : Nat → Prop} (h0 : P T.root) (hs : ∀ n x p y, T.find n = some x → n ≠ T.root → x.parent = some p → T.find p = some y → p < n → P p → P n) : ∀ n x, T.find n = some x → P n := by
  intro n
  induction n using Nat.strongRecOn with
  | _ n ih =>
    intro x hx
    by_cases r : n = T.root
    · rw [r]; exact h0
    · obtain ⟨m, e⟩ := mem_of_find hx
      obtain ⟨p, y, hp, l, hy, _⟩ := W.up x m (by rw [e]; exact r)
      exact hs n x p y hx r hp hy (by omega) (ih p (by omega) y hy)
theorem way_has {T : Tr} (W : WF T) : ∀ n x, T.find n = some x → ∀ k ∈ wayTo T n, ∃ y, T.find k = some y := by
  refine W.ind ?_ ?_
  · intro k hk
    rw [way_root] at hk
    simp at hk
    subst hk
    obtain ⟨r, hr, _⟩ := W.root
    exact ⟨r, hr⟩
  · intro n x p y hx r hp hy _ ih k hk
    rw [way_step W hx r hp] at hk
    rcases List.mem_append.mp hk with h | h
    · exact ih k h
    · simp at h
      subst h
      exact ⟨x, hx⟩
theorem way_head {T : Tr} (W : WF T) : ∀ n x, T.find n = some x → ∃ l, wayTo T n = T.root :: l := by
  refine W.ind ⟨[], way_root⟩ ?_
  intro n x p y hx r hp hy _ ⟨l, ih⟩
  exact ⟨l ++ [n], by rw [way_step W hx r hp, ih]; rfl⟩
theorem way_len {T : Tr} (W : WF T) : ∀ n x, T.find n = some x → (wayTo T n).length ≤ n + 1 := by
  refine W.ind (by rw [way_root]; simp) ?_
  intro n x p y hx r hp hy l ih
  rw [way_step W hx r hp, List.length_append, List.length_singleton]
  omega
theorem way_le {T : Tr} (W : WF T) : ∀ n x, T.find n = some x → ∀ k ∈ wayTo T n, k ≤ n := by
  refine W.ind ?_ ?_
  · intro k hk
    rw [way_root] at hk
    simp at hk
    omega
  · intro n x p y hx r hp hy l ih k hk
    rw [way_step W hx r hp] at hk
    rcases List.mem_append.mp hk with h | h
    · have := ih k h; omega
    · simp at h; omega
theorem way_inc {T : Tr} (W : WF T) : ∀ n x, T.find n = some x → (wayTo T n).Pairwise (· < ·) := by
  refine W.ind (by rw [way_root]; simp) ?_
  intro n x p y hx r hp hy l ih
  rw [way_step W hx r hp, List.pairwise_append]
  refine ⟨ih, by simp, fun a ha b hb => ?_⟩
  simp at hb
  have := way_le W p y hy a ha
  omega
theorem way_last {T : Tr} (W : WF T) {n : Nat} {x : Nd} (h : T.find n = some x) : ∃ l, wayTo T n = l ++ [n] := by
  by_cases r : n = T.root
  · exact ⟨[], by rw [r, way_root]; rfl⟩
  · obtain ⟨m, e⟩ := mem_of_find h
    obtain ⟨p, y, hp, _⟩ := W.up x m (by rw [e]; exact r)
    exact ⟨_, way_step W h r hp⟩
/-- the way hangs on parents and the root alone -/
theorem up_congr {T T' : Tr} (hr : T'.root = T.root) (hp : ∀ k, (T'.find k).bind (fun x => x.parent) = (T.find k).bind fun x => x.parent) : ∀ f n, Ub.up f T' n = Ub.up f T n
  | 0, n => rfl
  | f + 1, n => by
    unfold Ub.up
    rw [hr, hp]
    by_cases r : n = T.root
    · rw [if_pos r, if_pos r]
    · rw [if_neg r, if_neg r]
      cases (T.find n).bind fun x => x.parent with
      | none => rfl
      | some p =>
        show n :: Ub.up f T' p = n :: Ub.up f T p
        rw [up_congr hr hp f p]
theorem way_congr {T T' : Tr} (hr : T'.root = T.root) (hp : ∀ k, (T'.find k).bind (fun x => x.parent) = (T.find k).bind fun x => x.parent) (n : Nat) : wayTo T' n = wayTo T n := by
  unfold wayTo
  rw [up_congr hr hp]
theorem nums_len {T : Tr} : T.nums.length = T.nodes.length := by
  unfold Tr.nums
  rw [List.length_map]
theorem nums_inc {T : Tr} (W : WF T) : T.nums.Pairwise (· < ·) := by
  unfold Tr.nums
  rw [List.pairwise_map]
  exact W.inc
theorem inc_len : ∀ (l : List Nat) (m n : Nat), l.Pairwise (· < ·) → (∀ k ∈ l, m ≤ k ∧ k < n) → l.length ≤ n - m
  | [], _, _, _, _ => Nat.zero_le _
  | a :: l, m, n, h, hk => by
    rw [List.pairwise_cons] at h
    have h1 := hk a (List.mem_cons_self ..)
    have := inc_len l (a + 1) n h.2 fun k hm => ⟨h.1 k hm, (hk k (List.mem_cons_of_mem _ hm)).2⟩
    rw [List.length_cons]
    omega
theorem nodes_len {T : Tr} (W : WF T) : T.nodes.length ≤ T.coming := by
  rw [← nums_len]
  refine inc_len T.nums 0 T.coming (nums_inc W) fun k hk => ⟨Nat.zero_le _, ?_⟩
  obtain ⟨x, hx⟩ := mem_nums.mp hk
  obtain ⟨m, e⟩ := mem_of_find hx
  rw [← e]
  exact W.lt x m
theorem find_lt {T : Tr} (W : WF T) {k : Nat} {x : Nd} (h : T.find k = some x) : k < T.coming := by
  obtain ⟨m, e⟩ := mem_of_find h
  rw [← e]
  exact W.lt x m
theorem kid_of {T : Tr} (W : WF T) {x y : Nd} (hx : x ∈ T.nodes) (hy : y ∈ T.nodes) : y.number ∈ x.children ↔ y.parent = some x.number := by
  rw [W.kids x hx, List.mem_map]
  constructor
  · rintro ⟨z, hz, e⟩
    obtain ⟨hm, hp⟩ := List.mem_filter.mp hz
    have := uniq W hm hy e
    subst this
    simpa using hp
  · intro h
    exact ⟨y, List.mem_filter.mpr ⟨hy, by simp [h]⟩, rfl⟩
theorem kid_mem {T : Tr} (W : WF T) {x : Nd} (hx : x ∈ T.nodes) {k : Nat} (h : k ∈ x.children) : ∃ y, T.find k = some y ∧ y.parent = some x.number := by
  rw [W.kids x hx, List.mem_map] at h
  obtain ⟨z, hz, rfl⟩ := h
  obtain ⟨hm, hp⟩ := List.mem_filter.mp hz
  exact ⟨z, W.find hm, by simpa using hp⟩
theorem kids_inc {T : Tr} (W : WF T) {x : Nd} (hx : x ∈ T.nodes) : x.children.Pairwise (· < ·) := by
  rw [W.kids x hx, List.pairwise_map]
  exact W.inc.filter _
theorem kids_len {T : Tr} (W : WF T) {x : Nd} (hx : x ∈ T.nodes) : x.children.length ≤ T.nodes.length := by
  rw [W.kids x hx, List.length_map]
  exact List.length_filter_le _ _
/-- the preferred child is a child -/
theorem preferred_mem {x : Nd} (h : x.children ≠ []) : x.preferred ∈ x.children := by
  have hl : x.children.getLastD 0 ∈ x.children := by
    rw [List.getLastD_eq_getLast?]
    obtain ⟨a, ha⟩ : ∃ a, x.children.getLast? = some a := by
      cases e : x.children.getLast? with
      | none => exact absurd (List.getLast?_eq_none_iff.mp e) h
      | some a => exact ⟨a, rfl⟩
    rw [ha]
    exact List.mem_of_getLast? ha
  unfold Nd.preferred
  cases x.visited with
  | none => exact hl
  | some v =>
    show (if x.children.contains v = true then v else x.children.getLastD 0) ∈ x.children
    by_cases c : x.children.contains v = true
    · rw [if_pos c]
      simpa using c
    · rw [if_neg c]
      exact hl
end Ub
/-! # What keeps WF -/
namespace Ub
structure Alike (f : Nd → Nd) : Prop where
  number : ∀ x, (f x).number = x.number
  parent : ∀ x, (f x).parent = x.parent
  changes : ∀ x, (f x).changes = x.changes
  text : ∀ x, (f x).text = x.text
  children : ∀ x, (f x).children = x.children
theorem al_vis (v : Nat) : Alike (setVis v) := ⟨fun _ => rfl, fun _ => rfl, fun _ => rfl, fun _ => rfl, fun _ => rfl⟩
theorem al_kept (v : Bool) : Alike (setKept v) := ⟨fun _ => rfl, fun _ => rfl, fun _ => rfl, fun _ => rfl, fun _ => rfl⟩
theorem ite_al {A : Type} {g : Nd → A} {f : Nd → Nd} (h : ∀ x, g (f x) = g x) (k : Nat) (x : Nd) : g (if x.number = k then f x else x) = g x := by
  by_cases e : x.number = k
  · rw [if_pos e, h]
  · rw [if_neg e]
theorem find_upd_some {T : Tr} {f : Nd → Nd} (hf : Numb f) (k : Nat) {j : Nat} {x : Nd} (h : T.find j = some x) : (T.upd k f).find j = some (if x.number = k then f x else x) := by
  rw [find_upd hf, h]
  rfl
theorem kids_upd {T : Tr} {f : Nd → Nd} (hf : Numb f) (hp : ∀ x, (f x).parent = x.parent) (k j : Nat) : (((T.upd k f).nodes.filter fun y => y.parent == some j).map fun y => y.number) = (T.nodes.filter fun y => y.parent == some j).map fun y => y.number := by
  unfold Tr.upd
  show (((T.nodes.map fun x => if x.number = k then f x else x).filter fun y => y.parent == some j).map fun y => y.number) = _
  rw [List.filter_map, List.map_map]
  have e : ((fun y : Nd => y.parent == some j) ∘ fun x => if x.number = k then f x else x) = fun y : Nd => y.parent == some j := by
    funext y
    show ((if y.number = k then f y else y).parent == some j) = _
    rw [ite_al (g := fun x => x.parent) hp]
  rw [e]
  exact List.map_congr_left fun x _ => ite_numb hf k x
theorem wf_upd {T : Tr} {f : Nd → Nd} (W : WF T) (hf : Alike f) (k : Nat) : WF (T.upd k f) where
  inc := inc_upd hf.number W.inc
  lt := fun y' hy' => by
    obtain ⟨y, hy, rfl⟩ := mem_upd hy'
    rw [ite_numb hf.number]
    exact W.lt y hy
  root := by
    obtain ⟨r, h1, h2⟩ := W.root
    exact ⟨_, find_upd_some hf.number k h1, by rw [ite_al (g := fun x => x.parent) hf.parent]; exact h2⟩
  up := fun y' hy' nr => by
    obtain ⟨y, hy, rfl⟩ := mem_upd hy'
    rw [ite_numb hf.number] at nr ⊢
    obtain ⟨p, z, h1, h2, h3, h4, h5⟩ := W.up y hy nr
    refine ⟨p, _, ?_, h2, find_upd_some hf.number k h3, ?_, ?_⟩
    · rw [ite_al (g := fun x => x.parent) hf.parent]
      exact h1
    · rw [ite_al (g := fun x => x.text) hf.text, ite_al (g := fun x => x.text) hf.text, ite_al (g := fun x => x.changes) hf.changes]
      exact h4
    · rw [ite_al (g := fun x => x.changes) hf.changes]
      exact h5
  cur := by
    obtain ⟨c, h⟩ := W.cur
    exact ⟨_, find_upd_some hf.number k h⟩
  kids := fun y' hy' => by
    obtain ⟨y, hy, rfl⟩ := mem_upd hy'
    rw [ite_numb hf.number, ite_al (g := fun x => x.children) hf.children, kids_upd hf.number hf.parent]
    exact W.kids y hy
  len := fun y' hy' => by
    obtain ⟨y, hy, rfl⟩ := mem_upd hy'
    rw [ite_al (g := fun x => x.text) hf.text]
    exact W.len y hy
  ins := fun y' hy' => by
    obtain ⟨y, hy, rfl⟩ := mem_upd hy'
    rw [ite_al (g := fun x => x.changes) hf.changes]
    exact W.ins y hy
theorem wf_cur {T : Tr} (W : WF T) {k : Nat} {x : Nd} (h : T.find k = some x) : WF { T with current := k } := ⟨W.inc, W.lt, W.root, W.up, ⟨x, h⟩, W.kids, W.len, W.ins⟩
theorem wf_mark : ∀ (l : List (Nat × Nat)) {T : Tr}, WF T → WF (mark T l)
  | [], _, W => W
  | p :: l, _, W => wf_mark l (wf_upd W (al_vis p.2) p.1)
theorem mark_has {k : Nat} : ∀ (l : List (Nat × Nat)) {M : Tr}, (∃ x, M.find k = some x) → ∃ y, (mark M l).find k = some y
  | [], _, h => h
  | p :: l, M, ⟨x, hx⟩ => mark_has l (M := M.upd p.1 (setVis p.2)) ⟨_, find_upd_some (nb_vis _) p.1 hx⟩
theorem wf_visit {T : Tr} (W : WF T) {k : Nat} {x : Nd} (h : T.find k = some x) : WF (visit T k) := by
  obtain ⟨y, hy⟩ := mark_has ((wayTo T k).zip (wayTo T k).tail) ⟨x, h⟩
  exact wf_cur (wf_mark _ W) hy
/-! ### a state less -/
theorem find_filter {T : Tr} {n j : Nat} (h : j ≠ n) : Tr.find { T with nodes := T.nodes.filter fun x => x.number != n } j = T.find j := by
  unfold Tr.find
  show (T.nodes.filter fun x => x.number != n).find? _ = _
  rw [List.find?_filter]
  congr 1
  funext x
  by_cases e : x.number = j
  · simp [e, h]
  · simp [e]
theorem find_gone {T : Tr} {n : Nat} : Tr.find { T with nodes := T.nodes.filter fun x => x.number != n } n = none := by
  rw [find_none]
  intro x hx
  have := (List.mem_filter.mp hx).2
  simpa using this
theorem erase_inc : ∀ (l : List Nd) (n : Nat), l.Pairwise (fun x y => x.number < y.number) → (l.map fun y => y.number).erase n = (l.filter fun y => y.number != n).map fun y => y.number
  | [], _, _ => rfl
  | a :: l, n, h => by
    rw [List.pairwise_cons] at h
    by_cases e : a.number = n
    · rw [List.map_cons, e, List.erase_cons_head, List.filter_cons_of_neg (by simp [e])]
      have : (l.filter fun y => y.number != n) = l := by
        rw [List.filter_eq_self]
        intro y hy
        have := h.1 y hy
        simp
        omega
      rw [this]
    · rw [List.map_cons, List.erase_cons_tail (by simp [e]), List.filter_cons_of_pos (by simp [e]), List.map_cons, erase_inc l n h.2]
theorem filter_comm' (l : List Nd) (p q : Nd → Bool) : (l.filter p).filter q = (l.filter q).filter p := by
  rw [List.filter_filter, List.filter_filter]
  congr 1
  funext x
  exact Bool.and_comm _ _
theorem takeAway_eq {T : Tr} {n p : Nat} {x : Nd} (hx : T.find n = some x) (hp : x.parent = some p) : takeAway T n = { T.upd p (delKid n) with nodes := (T.upd p (delKid n)).nodes.filter fun x => x.number != n } := by
  unfold takeAway
  rw [hx]
  show (match x.parent with | some p => _ | none => T) = _
  rw [hp]
theorem wf_takeAway {T : Tr} (W : WF T) {n : Nat} {x : Nd} (hx : T.find n = some x) (nr : n ≠ T.root) (nc : n ≠ T.current) (leaf : x.children = []) : WF (takeAway T n) := by
  obtain ⟨m, ex⟩ := mem_of_find hx
  obtain ⟨p, y, hp, lp, hy, _⟩ := W.up x m (by rw [ex]; exact nr)
  rw [takeAway_eq hx hp]
  have hf := nb_del n
  have keep : ∀ {j : Nat} {z : Nd}, j ≠ n → T.find j = some z → Tr.find { T.upd p (delKid n) with nodes := (T.upd p (delKid n)).nodes.filter fun x => x.number != n } j = some (if z.number = p then delKid n z else z) := fun {j z} h hz => by
    rw [find_filter h]
    exact find_upd_some hf p hz
  have inv : ∀ z', z' ∈ ((T.upd p (delKid n)).nodes.filter fun x => x.number != n) → ∃ z ∈ T.nodes, z.number ≠ n ∧ z' = if z.number = p then delKid n z else z := fun z' h => by
    obtain ⟨h1, h2⟩ := List.mem_filter.mp h
    obtain ⟨z, hz, e⟩ := mem_upd h1
    refine ⟨z, hz, ?_, e⟩
    rw [e, ite_numb hf] at h2
    simpa using h2
  have par : ∀ z : Nd, (if z.number = p then delKid n z else z).parent = z.parent := fun z => ite_al (g := fun x => x.parent) (f := delKid n) (fun _ => rfl) p z
  have txt : ∀ z : Nd, (if z.number = p then delKid n z else z).text = z.text := fun z => ite_al (g := fun x => x.text) (f := delKid n) (fun _ => rfl) p z
  have chg : ∀ z : Nd, (if z.number = p then delKid n z else z).changes = z.changes := fun z => ite_al (g := fun x => x.changes) (f := delKid n) (fun _ => rfl) p z
  refine ⟨(inc_upd hf W.inc).filter _, ?_, ?_, ?_, ?_, ?_, ?_, ?_⟩
  · intro z' h
    obtain ⟨z, hz, _, rfl⟩ := inv z' h
    rw [ite_numb hf]
    exact W.lt z hz
  · obtain ⟨r, h1, h2⟩ := W.root
    exact ⟨_, keep nr.symm h1, by rw [par]; exact h2⟩
  · intro z' h nz
    obtain ⟨z, hz, zn, rfl⟩ := inv z' h
    rw [ite_numb hf] at nz ⊢
    obtain ⟨q, u, h1, h2, h3, h4, h5⟩ := W.up z hz nz
    have qn : q ≠ n := fun e => by
      have := (kid_of W m hz).mpr (by rw [h1, ex, e])
      rw [leaf] at this
      cases this
    refine ⟨q, _, by rw [par]; exact h1, h2, keep qn h3, ?_, by rw [chg]; exact h5⟩
    rw [txt, txt, chg]
    exact h4
  · obtain ⟨c, h⟩ := W.cur
    exact ⟨_, keep nc.symm h⟩
  · intro z' h
    obtain ⟨z, hz, zn, rfl⟩ := inv z' h
    rw [ite_numb hf]
    have e1 : ((((T.upd p (delKid n)).nodes.filter fun x => x.number != n).filter fun y => y.parent == some z.number).map fun y => y.number) = (z.children).erase n := by
      rw [W.kids z hz, erase_inc _ n (W.inc.filter _)]
      unfold Tr.upd
      show ((((T.nodes.map fun x => if x.number = p then delKid n x else x).filter fun x => x.number != n).filter fun y => y.parent == some z.number).map fun y => y.number) = _
      rw [List.filter_map, List.filter_map, List.map_map]
      have q1 : ((fun x : Nd => x.number != n) ∘ fun x => if x.number = p then delKid n x else x) = fun x : Nd => x.number != n := by
        funext u
        show ((if u.number = p then delKid n u else u).number != n) = _
        rw [ite_numb hf]
      have q2 : ((fun y : Nd => y.parent == some z.number) ∘ fun x => if x.number = p then delKid n x else x) = fun y : Nd => y.parent == some z.number := by
        funext u
        show ((if u.number = p then delKid n u else u).parent == some z.number) = _
        rw [par]
      rw [q1, q2, filter_comm']
      exact List.map_congr_left fun u _ => ite_numb hf p u
    show (if z.number = p then delKid n z else z).children = _
    rw [e1]
    by_cases e : z.number = p
    · rw [if_pos e]
      rfl
    · rw [if_neg e, List.erase_of_not_mem]
      intro hm
      have := (kid_of W hz m).mp (by rw [ex]; exact hm)
      rw [hp] at this
      exact e (Option.some.inj this).symm
  · intro z' h
    obtain ⟨z, hz, _, rfl⟩ := inv z' h
    rw [txt]
    exact W.len z hz
  · intro z' h
    obtain ⟨z, hz, _, rfl⟩ := inv z' h
    rw [chg]
    exact W.ins z hz
theorem takeAway_len {T : Tr} (W : WF T) {n p : Nat} {x : Nd} (hx : T.find n = some x) (hp : x.parent = some p) : (takeAway T n).nodes.length + 1 = T.nodes.length := by
  rw [takeAway_eq hx hp]
  have e : ((T.upd p (delKid n)).nodes.filter fun x => x.number != n).length = (((T.nodes.map fun y => y.number).erase n)).length := by
    have q := erase_inc (T.upd p (delKid n)).nodes n (inc_upd (nb_del n) W.inc)
    have q2 : ((T.upd p (delKid n)).nodes.map fun y => y.number) = T.nodes.map fun y => y.number := nums_upd (nb_del n) p
    rw [q2] at q
    rw [q, List.length_map]
  show ((T.upd p (delKid n)).nodes.filter fun x => x.number != n).length + 1 = _
  rw [e, List.length_erase_of_mem (by
    obtain ⟨h1, h2⟩ := mem_of_find hx
    exact List.mem_map.mpr ⟨x, h1, h2⟩), List.length_map]
  have : T.nodes.length ≠ 0 := fun z => by
    have h1 := (mem_of_find hx).1
    rw [List.length_eq_zero_iff.mp z] at h1
    cases h1
  omega
theorem takeRoot_eq {T : Tr} {r : Nd} {c : Nat} (hr : T.find T.root = some r) (hc : r.children = [c]) : takeRoot T = { T.upd c toRoot with root := c, nodes := (T.upd c toRoot).nodes.filter fun x => x.number != T.root } := by
  unfold takeRoot
  rw [hr]
  show (match r.children.head? with | some c => _ | none => T) = _
  rw [hc]
  rfl
theorem takeRoot_len {T : Tr} (W : WF T) {r : Nd} {c : Nat} (hr : T.find T.root = some r) (hc : r.children = [c]) : (takeRoot T).nodes.length + 1 = T.nodes.length := by
  rw [takeRoot_eq hr hc]
  have e : ((T.upd c toRoot).nodes.filter fun x => x.number != T.root).length = (((T.nodes.map fun y => y.number).erase T.root)).length := by
    have q := erase_inc (T.upd c toRoot).nodes T.root (inc_upd nb_root W.inc)
    have q2 : ((T.upd c toRoot).nodes.map fun y => y.number) = T.nodes.map fun y => y.number := nums_upd nb_root c
    rw [q2] at q
    rw [q, List.length_map]
  show ((T.upd c toRoot).nodes.filter fun x => x.number != T.root).length + 1 = _
  rw [e, List.length_erase_of_mem (by
    obtain ⟨h1, h2⟩ := mem_of_find hr
    exact List.mem_map.mpr ⟨r, h1, h2⟩), List.length_map]
  have : T.nodes.length ≠ 0 := fun z => by
    have h1 := (mem_of_find hr).1
    rw [List.length_eq_zero_iff.mp z] at h1
    cases h1
  omega
theorem root_kid {T : Tr} (W : WF T) {r : Nd} {c : Nat} (hr : T.find T.root = some r) (hc : r.children = [c]) : ∃ x, T.find c = some x ∧ x.parent = some T.root ∧ c ≠ T.root := by
  obtain ⟨x, hx, hp⟩ := kid_mem W (mem_of_find hr).1 (k := c) (by rw [hc]; simp)
  rw [(mem_of_find hr).2] at hp
  refine ⟨x, hx, hp, fun e => ?_⟩
  obtain ⟨r', h1, h2⟩ := W.root
  rw [e, h1] at hx
  cases hx
  rw [h2] at hp
  cases hp
theorem wf_takeRoot {T : Tr} (W : WF T) {r : Nd} {c : Nat} (hr : T.find T.root = some r) (hc : r.children = [c]) (nc : T.root ≠ T.current) : WF (takeRoot T) := by
  obtain ⟨x, hx, hp, ncr⟩ := root_kid W hr hc
  obtain ⟨r', hr1, hr2⟩ := W.root
  rw [takeRoot_eq hr hc]
  have hf := nb_root
  have keep : ∀ {j : Nat} {z : Nd}, j ≠ T.root → T.find j = some z → Tr.find { T.upd c toRoot with root := c, nodes := (T.upd c toRoot).nodes.filter fun x => x.number != T.root } j = some (if z.number = c then toRoot z else z) := fun {j z} h hz => by
    have := find_filter (T := T.upd c toRoot) (n := T.root) h
    exact this.trans (find_upd_some hf c hz)
  have inv : ∀ z', z' ∈ ((T.upd c toRoot).nodes.filter fun x => x.number != T.root) → ∃ z ∈ T.nodes, z.number ≠ T.root ∧ z' = if z.number = c then toRoot z else z := fun z' h => by
    obtain ⟨h1, h2⟩ := List.mem_filter.mp h
    obtain ⟨z, hz, e⟩ := mem_upd h1
    refine ⟨z, hz, ?_, e⟩
    rw [e, ite_numb hf] at h2
    simpa using h2
  have txt : ∀ z : Nd, (if z.number = c then toRoot z else z).text = z.text := fun z => ite_al (g := fun x => x.text) (f := toRoot) (fun _ => rfl) c z
  have kid : ∀ z : Nd, (if z.number = c then toRoot z else z).children = z.children := fun z => ite_al (g := fun x => x.children) (f := toRoot) (fun _ => rfl) c z
  refine ⟨(inc_upd hf W.inc).filter _, ?_, ?_, ?_, ?_, ?_, ?_, ?_⟩
  · intro z' h
    obtain ⟨z, hz, _, rfl⟩ := inv z' h
    rw [ite_numb hf]
    exact W.lt z hz
  · exact ⟨_, keep ncr hx, by rw [if_pos (mem_of_find hx).2]; rfl⟩
  · intro z' h nz
    obtain ⟨z, hz, zn, rfl⟩ := inv z' h
    rw [ite_numb hf] at nz ⊢
    have nzc : z.number ≠ c := nz
    rw [if_neg nzc]
    obtain ⟨q, u, h1, h2, h3, h4, h5⟩ := W.up z hz zn
    have qn : q ≠ T.root := fun e => by
      have := (kid_of W (mem_of_find hr).1 hz).mpr (by rw [h1, (mem_of_find hr).2, e])
      rw [hc] at this
      simp at this
      exact nzc this
    refine ⟨q, _, h1, h2, keep qn h3, ?_, h5⟩
    rw [txt]
    exact h4
  · obtain ⟨cu, h⟩ := W.cur
    exact ⟨_, keep nc.symm h⟩
  · intro z' h
    obtain ⟨z, hz, zn, rfl⟩ := inv z' h
    rw [ite_numb hf, kid]
    have e1 : ((((T.upd c toRoot).nodes.filter fun x => x.number != T.root).filter fun y => y.parent == some z.number).map fun y => y.number) = z.children := by
      rw [W.kids z hz]
      unfold Tr.upd
      show ((((T.nodes.map fun x => if x.number = c then toRoot x else x).filter fun x => x.number != T.root).filter fun y => y.parent == some z.number).map fun y => y.number) = _
      rw [List.filter_map, List.filter_map, List.map_map, List.filter_filter]
      have q : (T.nodes.filter fun u => ((fun y : Nd => y.parent == some z.number) ∘ fun x => if x.number = c then toRoot x else x) u && ((fun x : Nd => x.number != T.root) ∘ fun x => if x.number = c then toRoot x else x) u) = T.nodes.filter fun y => y.parent == some z.number := by
        refine List.filter_congr fun u hu => ?_
        show ((if u.number = c then toRoot u else u).parent == some z.number && ((if u.number = c then toRoot u else u).number != T.root)) = (u.parent == some z.number)
        rw [ite_numb hf]
        by_cases eu : u.number = c
        · have e2 : u = x := uniq W hu (mem_of_find hx).1 (by rw [eu, (mem_of_find hx).2])
          subst e2
          rw [if_pos eu, hp]
          have : ¬ T.root = z.number := fun e => zn e.symm
          simp [toRoot, this]
        · rw [if_neg eu]
          by_cases er : u.number = T.root
          · have e2 : u = r' := uniq W hu (mem_of_find hr1).1 (by rw [er, (mem_of_find hr1).2])
            subst e2
            rw [hr2]
            simp
          · simp [er]
      rw [q]
      exact List.map_congr_left fun u _ => ite_numb hf c u
    exact e1.symm
  · intro z' h
    obtain ⟨z, hz, _, rfl⟩ := inv z' h
    rw [txt]
    exact W.len z hz
  · intro z' h
    obtain ⟨z, hz, _, rfl⟩ := inv z' h
    by_cases e : z.number = c
    · rw [if_pos e]
      intro ch hch
      cases hch
    · rw [if_neg e]
      exact W.ins z hz
end Ub
/-! # The walk's base: the heap's layout, bundles of defs, steps -/
namespace Ub
open PySem L2
/-- the i-th statement of the program's top -/
def topS (i : Nat) : Stmt := PySem.Challenge.pw_undobranches_s01_answers.main.body.getD i (.Pass ⟨0, 0, 0, 0⟩)
/-- the classes -/
structure Cl where
  ch : Addr
  st : Addr
  tr : Addr
  se : Addr
abbrev iV (n : Nat) : V := .int n
def vInts (l : List Nat) : List V := l.map iV
theorem vInts_len (l : List Nat) : (vInts l).length = l.length := List.length_map _
theorem vInts_app (l m : List Nat) : vInts (l ++ m) = vInts l ++ vInts m := List.map_append
/-- what the top has written -/
structure Txt (K : PySem.W.Frag) (mg : Str → Option Value) (C : Cl) : Prop where
  cCh : Cls K C.ch
  cSt : Cls K C.st
  cTr : Cls K C.tr
  cSe : Cls K C.se
  nPosition : NoAttr K C.ch "position"
  nRemoved : NoAttr K C.ch "removed"
  nInserted : NoAttr K C.ch "inserted"
  nNumber : NoAttr K C.st "number"
  nParent : NoAttr K C.st "parent"
  nChanges : NoAttr K C.st "changes"
  nText : NoAttr K C.st "text"
  nTime : NoAttr K C.st "time"
  nKept : NoAttr K C.st "is_kept"
  nChildren : NoAttr K C.st "children"
  nVisited : NoAttr K C.st "visited"
  nStates : NoAttr K C.tr "states"
  nRoot : NoAttr K C.tr "root"
  nCurrent : NoAttr K C.tr "current"
  nComing : NoAttr K C.tr "coming"
  nTree : NoAttr K C.se "tree"
  nClock : NoAttr K C.se "clock"
  nOpen : NoAttr K C.se "is_open"
  nGrouped : NoAttr K C.se "grouped"
  nDraft : NoAttr K C.se "draft"
  gCh : mg "Change" = some (.ref C.ch)
  gSt : mg "State" = some (.ref C.st)
  gTr : mg "Tree" = some (.ref C.tr)
  gSe : mg "Session" = some (.ref C.se)
  len : mg "len" = none
  sorted : mg "sorted" = none
  list : mg "list" = none
  zip : mg "zip" = none
  all : mg "all" = none
  int : mg "int" = none
  kMOST_BYTES : ∃ t, mg "MOST_BYTES" = some (.int 300 t)
  kGREATEST_BYTE : ∃ t, mg "GREATEST_BYTE" = some (.int 255 t)
  kOVERLAPPED : ∃ t, mg "OVERLAPPED" = some (.int (-1) t)
  kNOBODY : ∃ t, mg "NOBODY" = some (.int (-1) t)
  kOUT_OF_RANGE : ∃ t, mg "OUT_OF_RANGE" = some (.int (-1) t)
  kNO_STATE : ∃ t, mg "NO_STATE" = some (.int (-2) t)
  kMANY_CHANGES : ∃ t, mg "MANY_CHANGES" = some (.int (-4) t)
  kLONG_REVERTED : ∃ t, mg "LONG_REVERTED" = some (.int (-5) t)
  kTOO_LONG : ∃ t, mg "TOO_LONG" = some (.int (-6) t)
  kNOT_ON_PATH : ∃ t, mg "NOT_ON_PATH" = some (.int (-6) t)
  kNOWHERE : ∃ t, mg "NOWHERE" = some (.int (-7) t)
  kOVERLAPS : ∃ t, mg "OVERLAPS" = some (.int (-8) t)
  kGROUP : ∃ t, mg "GROUP" = some (.int (-9) t)
  kMOST_CLOCK : ∃ t, mg "MOST_CLOCK" = some (.int 1000000 t)
  kNUMBERS : ∃ a, mg "NUMBERS" = some (.ref a) ∧ ∀ H, SqT K H a (vInts [0, 1, 2, 0, 0, 0, 0, 1, 1, 1, 1, 0, 1, 0, 2, 0, 1, 2, 1, 1])
  kWITH_ROW : ∃ a, mg "WITH_ROW" = some (.ref a) ∧ ∀ H, SqT K H a (vInts [0, 2])

/-! ### who owns what may change -/
inductive Lbl where
  | sess | tree | dict | grp | out
  | st (k : Nat)
  | ch (k : Nat)
  deriving DecidableEq
structure Gh where
  L : Addr → Option Lbl
  ad : Nat → Addr
  t : Addr
  d : Addr
  s : Addr
def isT : Option Lbl → Bool
  | some .tree => true
  | some .dict => true
  | some (.st _) => true
  | some (.ch _) => true
  | _ => false

/-! ### what stands where -/
def chF (c : Chg) (ia : Addr) : List (Str × V) := [("position", iV c.at_), ("removed", iV c.out), ("inserted", .ref ia)]
def stF (x : Nd) (ca ta ka : Addr) : List (Str × V) := [("number", iV x.number), ("parent", .int (encP x.parent)), ("changes", .ref ca), ("text", .ref ta), ("time", iV x.time), ("is_kept", .bl x.kept), ("children", .ref ka), ("visited", .int (encP x.visited))]
def trF (T : Tr) (d : Addr) : List (Str × V) := [("states", .ref d), ("root", iV T.root), ("current", iV T.current), ("coming", iV T.coming)]
def seF (t : Addr) (clock : Nat) (o : Bool) (g d : V) : List (Str × V) := [("tree", .ref t), ("clock", iV clock), ("is_open", .bl o), ("grouped", g), ("draft", d)]
def kvs (T : Tr) (ad : Nat → Addr) : List (Key × V) := T.nodes.map fun x => (Sum.inl (x.number : Int), V.ref (ad x.number))
section
variable (C : Cl) (G : Gh) (H : Hp)
def TextAt (a : Addr) (t : List Nat) : Prop := H a = some (.lst (vInts t)) ∧ G.L a = none
structure ChAt (a : Addr) (c : Chg) : Prop where
  ex : ∃ dx ia, H a = some (.ins C.ch dx (chF c ia)) ∧ G.L a = none ∧ TextAt G H ia c.in_
def ChsAt (as : List Addr) (cs : List Chg) : Prop := Paired (ChAt C G H) as cs
structure StAt (x : Nd) : Prop where
  ex : ∃ dx ca ta ka as, H (G.ad x.number) = some (.ins C.st dx (stF x ca ta ka)) ∧ G.L (G.ad x.number) = some (.st x.number) ∧
    (H ca = some (.lst (as.map V.ref)) ∧ G.L ca = none ∧ ChsAt C G H as x.changes) ∧ TextAt G H ta x.text ∧ H ka = some (.lst (vInts x.children)) ∧ G.L ka = some (.ch x.number)
structure TreeAt (T : Tr) : Prop where
  obj : ∃ dx, H G.t = some (.ins C.tr dx (trF T G.d))
  lt : G.L G.t = some .tree
  dict : H G.d = some (.dK (kvs T G.ad))
  ld : G.L G.d = some .dict
  sts : ∀ x ∈ T.nodes, StAt C G H x
  lok : ∀ b, H b = none → G.L b = none
structure SessAt (M : Se) : Prop where
  obj : ∃ dx g d, H G.s = some (.ins C.se dx (seF G.t M.clock M.group.isSome g d)) ∧ G.L G.s = some .sess ∧
    ∀ cs t, M.group = some (cs, t) → ∃ ga da as, g = .ref ga ∧ d = .ref da ∧ H ga = some (.lst (as.map V.ref)) ∧ G.L ga = some .grp ∧ ChsAt C G H as cs ∧ TextAt G H da t
  tree : TreeAt C G H M.tree
end
/-- what is not the tree's own stays -/
def FrT (G : Gh) (H H' : Hp) : Prop := ∀ b o, H b = some o → isT (G.L b) = false → H' b = some o
/-- what nobody owns stays, and stays so -/
def Frm (G : Gh) (H : Hp) (G' : Gh) (H' : Hp) : Prop := ∀ b o, H b = some o → G.L b = none → H' b = some o ∧ G'.L b = none
section
variable {C : Cl} {G G' : Gh} {H H' H1 H2 : Hp}
theorem FrT.of (s : Same H H') : FrT G H H' := fun b o h _ => s b o h
theorem FrT.refl : FrT G H H := fun _ _ h _ => h
theorem FrT.trans (a : FrT G H H1) (b : FrT G H1 H2) : FrT G H H2 := fun c o h l => b c o (a c o h l) l
theorem FrT.frm (a : FrT G H H1) : Frm G H G H1 := fun b o h l => ⟨a b o h (by rw [l]; rfl), l⟩
theorem Frm.of (s : Same H H') : Frm G H G H' := fun b o h l => ⟨s b o h, l⟩
theorem Frm.refl : Frm G H G H := fun _ _ h l => ⟨h, l⟩
theorem Frm.trans {G1 G2 : Gh} (a : Frm G H G1 H1) (b : Frm G1 H1 G2 H2) : Frm G H G2 H2 := fun c o h l => b c o (a c o h l).1 (a c o h l).2
theorem Same.new {p : Addr} {o : HO} (h : H p = none) : Same H (upd H p o) := fun b u e => by
  rw [upd_ne (ne_of_none e h)]
  exact e
theorem TextAt.frm {a : Addr} {t : List Nat} (h : TextAt G H a t) (f : Frm G H G' H') : TextAt G' H' a t := f a _ h.1 h.2
theorem ChAt.frm {a : Addr} {c : Chg} (h : ChAt C G H a c) (f : Frm G H G' H') : ChAt C G' H' a c := by
  obtain ⟨dx, ia, h1, h2, h3⟩ := h.ex
  exact ⟨dx, ia, (f a _ h1 h2).1, (f a _ h1 h2).2, h3.frm f⟩
theorem ChsAt.frm {as : List Addr} {cs : List Chg} (h : ChsAt C G H as cs) (f : Frm G H G' H') : ChsAt C G' H' as cs := Paired.mapP h fun _ _ q => q.frm f
/-- the layout hangs on the labels of what stands alone -/
theorem StAt.of {x : Nd} (h : StAt C G H x) (f : Frm G H G H') (h1 : H' (G.ad x.number) = H (G.ad x.number)) (h2 : ∀ b, G.L b = some (.ch x.number) → H' b = H b) : StAt C G H' x := by
  obtain ⟨dx, ca, ta, ka, as, a1, a2, ⟨a3, a4, a5⟩, a6, a7, a8⟩ := h.ex
  exact ⟨dx, ca, ta, ka, as, h1.trans a1, a2, ⟨(f _ _ a3 a4).1, a4, a5.frm f⟩, a6.frm f, (h2 _ a8).trans a7, a8⟩
theorem StAt.same {x : Nd} (h : StAt C G H x) (s : Same H H') : StAt C G H' x := by
  obtain ⟨dx, ca, ta, ka, as, a1, a2, ⟨a3, a4, a5⟩, a6, a7, a8⟩ := h.ex
  exact ⟨dx, ca, ta, ka, as, s _ _ a1, a2, ⟨s _ _ a3, a4, a5.frm (.of s)⟩, a6.frm (.of s), s _ _ a7, a8⟩
theorem TreeAt.same {T : Tr} (h : TreeAt C G H T) (s : Same H H') : TreeAt C G H' T where
  obj := let ⟨dx, e⟩ := h.obj; ⟨dx, s _ _ e⟩
  lt := h.lt
  dict := s _ _ h.dict
  ld := h.ld
  sts := fun x hx => (h.sts x hx).same s
  lok := fun b hb => h.lok b (s.free hb)
theorem SessAt.same {M : Se} (h : SessAt C G H M) (s : Same H H') : SessAt C G H' M where
  obj := by
    obtain ⟨dx, g, d, h1, h2, h3⟩ := h.obj
    refine ⟨dx, g, d, s _ _ h1, h2, fun cs t e => ?_⟩
    obtain ⟨ga, da, as, e1, e2, k1, k2, k3, k4⟩ := h3 cs t e
    exact ⟨ga, da, as, e1, e2, s _ _ k1, k2, k3.frm (.of s), k4.frm (.of s)⟩
  tree := h.tree.same s
/-- the tree has changed, the rest of the session stands -/
theorem SessAt.turn {M : Se} {T' : Tr} (h : SessAt C G H M) (f : FrT G H H') (h' : TreeAt C G H' T') : SessAt C G H' { M with tree := T' } where
  obj := by
    obtain ⟨dx, g, d, h1, h2, h3⟩ := h.obj
    refine ⟨dx, g, d, f _ _ h1 (by rw [h2]; rfl), h2, fun cs t e => ?_⟩
    obtain ⟨ga, da, as, e1, e2, k1, k2, k3, k4⟩ := h3 cs t e
    exact ⟨ga, da, as, e1, e2, f _ _ k1 (by rw [k2]; rfl), k2, k3.frm f.frm, k4.frm f.frm⟩
  tree := h'
end
end Ub
/-! # Bundles: a def that keeps its promise, as its callers see it; the rules of a call; steps of a reading -/
namespace Ub
open PySem L2
section
variable (P : Program) (w : World) (K : PySem.W.Frag) (mg : Str → Option Value) (base : Heap)
structure CalF (k : Nat) (x : Str) (ps : List Str) (sp : Sp) : Prop where
  ex : ∃ f fd, FnOk P w K mg base CX0 k f fd ps sp ∧ mg x = some (.ref f) ∧ PySem.W.keepIn K (.ref f) = true ∧ Binds K fd ps []
structure CalM (k : Nat) (C : Addr) (m : Str) (ps : List Str) (sp : Sp) : Prop where
  ex : ∃ f fd, FnOk P w K mg base CX0 k f fd ps sp ∧ Meth K C m f ∧ Binds K fd ps []
structure CalI (k : Nat) (C : Addr) (ps : List Str) (sp : Sp) : Prop where
  ex : ∃ f fd, FnOk P w K mg base CX0 k f fd ps sp ∧ Mk K C f ∧ Binds K fd ps []
end
structure DefF (K : PySem.W.Frag) (mg : Str → Option Value) (x : Str) (st : Stmt) : Prop where
  ex : ∃ f fd, Fun K x x st f fd ∧ mg x = some (.ref f)
structure DefM (K : PySem.W.Frag) (C : Addr) (m qual : Str) (st : Stmt) : Prop where
  ex : ∃ f fd, Fun K m qual st f fd ∧ Meth K C m f
structure DefI (K : PySem.W.Frag) (C : Addr) (qual : Str) (st : Stmt) : Prop where
  ex : ∃ f fd, Fun K "__init__" qual st f fd ∧ Mk K C f
section
variable {P : Program} {w : World} {K : PySem.W.Frag} {mg : Str → Option Value} {base : Heap} {k : Nat} {C : Addr} {x m qual : Str} {ps : List Str} {sp : Sp} {st : Stmt}
/-- how the arguments of a def without defaults meet its parameters -/
def Bind (x qual : Str) (st : Stmt) (ps : List Str) : Prop := ∀ (kV doc pm : Value) (an : Option Addr) (cdv ct : Value) (us : List Value), us.length = ps.length → bindArgs (PySem.W.fnOf x qual (defArgs st) (defBody st) (defScope st) .none kV doc pm an cdv ct) ⟨us, []⟩ = pure (ps.zip us)
theorem DefF.cal (D : DefF K mg x st) (b : Bind x x st ps) (h : ∀ f fd, Fun K x x st f fd → FnOk P w K mg base CX0 k f fd ps sp) : CalF P w K mg base k x ps sp := by
  obtain ⟨f, fd, F, g⟩ := D.ex
  exact ⟨f, fd, h f fd F, g, F.kp, F.binds b⟩
theorem DefM.cal (D : DefM K C m qual st) (b : Bind m qual st ps) (h : ∀ f fd, Fun K m qual st f fd → FnOk P w K mg base CX0 k f fd ps sp) : CalM P w K mg base k C m ps sp := by
  obtain ⟨f, fd, F, g⟩ := D.ex
  exact ⟨f, fd, h f fd F, g, F.binds b⟩
theorem DefI.cal (D : DefI K C qual st) (b : Bind "__init__" qual st ps) (h : ∀ f fd, Fun K "__init__" qual st f fd → FnOk P w K mg base CX0 k f fd ps sp) : CalI P w K mg base k C ps sp := by
  obtain ⟨f, fd, F, g⟩ := D.ex
  exact ⟨f, fd, h f fd F, g, F.binds b⟩
end
section
variable {X : Cx} {k k' : Nat} {C : Addr} {x m : Str} {ps : List Str} {sp : Sp} {p pos apos : Pos} {e o : Expr} {es : List Expr} {ta : TE} {t : TA}
theorem pf (F : CalF X.prog X.w X.K X.mg X.base k x ps sp) (hr : Room k' X.A) (hk : k ≤ k') (hg : Gl X x) (ha : PA X (e :: es) t) (hdb : (x == ("__debug__" : Str)) = false := by decide)
    (he : starEach (e :: es) X.env = (false, eval e X.env) :: starEach es X.env := by rfl) (hpl : (backTo pos (starEach es X.env)).any (·.1) = false := by rfl) : PE X (.Call (.Name x p) (e :: es) [] pos) (tCall sp [] E0 t) := by
  obtain ⟨f, fd, F, g, kp, b⟩ := F.ex
  exact pe_call F (hr.mono hk) hg g kp b .nil pass0 ha hdb he hpl
theorem pm {pl : Sem Bool} (F : CalM X.prog X.w X.K X.mg X.base k C m ps sp) (c : Cls X.K C) (hr : Room k' X.A) (hk : k ≤ k') (ho : PE X o ta) (ha : PA X (e :: es) t)
    (hst : starEach (e :: es) X.env = (false, eval e X.env) :: starEach es X.env := by rfl) (hpl : (backTo pos (starEach es X.env)).any (·.1) = false := by rfl)
    (ht : eval (.Call (.Attribute o m apos) (e :: es) [] pos) X.env = (do
      let ov ← eval o X.env
      standAt apos.atName
      let (f, first) ← holding [ov] (getMethod ov m pl)
      callWith pos f first (backTo pos (starEach (e :: es) X.env)) (backToKw pos (keywordEach [] X.env))) := by rfl) : PE X (.Call (.Attribute o m apos) (e :: es) [] pos) (tMeth C m sp [] E0 ta t) := by
  obtain ⟨f, fd, F, hm, b⟩ := F.ex
  exact pe_meth ho c hm F (hr.mono hk) b .nil pass0 ha hst hpl ht
theorem pm0 {pl : Sem Bool} (F : CalM X.prog X.w X.K X.mg X.base k C m ps sp) (c : Cls X.K C) (hr : Room k' X.A) (hk : k ≤ k') (ho : PE X o ta)
    (ht : eval (.Call (.Attribute o m apos) [] [] pos) X.env = (do
      let ov ← eval o X.env
      standAt apos.atName
      let (f, first) ← holding [ov] (getMethod ov m pl)
      callWith pos f first (backTo pos (starEach [] X.env)) (backToKw pos (keywordEach [] X.env))) := by rfl) : PE X (.Call (.Attribute o m apos) [] [] pos) (tMeth C m sp [] E0 ta tNil) := by
  obtain ⟨f, fd, F, hm, b⟩ := F.ex
  exact pe_meth0 ho c hm F (hr.mono hk) b .nil pass0 ht
theorem pi_ (F : CalI X.prog X.w X.K X.mg X.base k C ps sp) (hr : Room k' X.A) (hk : k + 1 ≤ k') (hg : Gl X x) (hm : X.mg x = some (.ref C)) (ha : PA X (e :: es) t) (hdb : (x == ("__debug__" : Str)) = false := by decide)
    (he : starEach (e :: es) X.env = (false, eval e X.env) :: starEach es X.env := by rfl) (hpl : (backTo pos (starEach es X.env)).any (·.1) = false := by rfl) : PE X (.Call (.Name x p) (e :: es) [] pos) (tMake C sp [] E0 t) := by
  obtain ⟨f, fd, F, M, b⟩ := F.ex
  exact pe_make M F (hr.mono hk) hg hm b .nil pass0 ha hdb he hpl
theorem pi0 (F : CalI X.prog X.w X.K X.mg X.base k C ps sp) (hr : Room k' X.A) (hk : k + 1 ≤ k') (hg : Gl X x) (hm : X.mg x = some (.ref C)) (hdb : (x == ("__debug__" : Str)) = false := by decide) : PE X (.Call (.Name x p) [] [] pos) (tMake C sp [] E0 tNil) := by
  obtain ⟨f, fd, F, M, b⟩ := F.ex
  exact pe_make0 M F (hr.mono hk) hg hm b .nil pass0 hdb
/-- a module's whole number -/
theorem pk {i : Int} (h : ∃ t, X.mg x = some (.int i t)) (hg : Gl X x) (hd : (x == ("__debug__" : Str)) = false := by decide) : PE X (.Name x pos) (tC (.int i)) := by
  obtain ⟨t, h⟩ := h
  exact pe_glob hg h ⟨t, rfl⟩ hd
/-- a module's tuple, by what is read off it -/
def tGT (K : PySem.W.Frag) (xs : List V) : TE := fun _ H Q => ∀ a, (∀ H, SqT K H a xs) → Q (.ref a) H
theorem pkt {xs : List V} (h : ∃ a, X.mg x = some (.ref a) ∧ ∀ H, SqT X.K H a xs) (hg : Gl X x) (hd : (x == ("__debug__" : Str)) = false := by decide) : PE X (.Name x pos) (tGT X.K xs) := by
  obtain ⟨a, h, q⟩ := h
  exact ⟨fun pins s σ H Q I hw => (pe_glob hg h (v := .ref a) rfl hd).run pins s σ H Q I (hw a q)⟩
/-- a list of anything against an empty one -/
def rEqE (K : PySem.W.Frag) : R2 := fun x y H Q => ∃ a b xs, x = .ref a ∧ y = .ref b ∧ SqL K H a xs ∧ SqL K H b [] ∧ Q (.bl xs.isEmpty) H
theorem op_eqE (hu : X.A.units + 64 < cLine) : OpR X (compareOp .Eq) (rEqE X.K) := by
  intro pins s σ H x y v u Q I rx ry h
  obtain ⟨a, b, xs, rfl, rfl, h1, h2, q⟩ := h
  cases rx
  cases ry
  obtain ⟨its, r1, p1, _⟩ := I.list h1
  obtain ⟨its2, r2, p2, _⟩ := I.list h2
  cases r2
  cases r1 with
  | nil => exact SeqAt.eq_listAt (e := fun _ => true) p1.isList p2.isList rfl (by omega) (fun j j1 _ => absurd j1 (by simp)) ⟨.bl _, H, I, rfl, q⟩
  | cons r t => exact SeqAt.eq_list_lengthsAt p1.isList p2.isList (by simp) (by omega) ⟨.bl _, H, I, rfl, q⟩
theorem op_eqEK {K0 : PySem.W.Frag} (hK : X.K = K0) (hu : X.A.units + 64 < cLine) : OpR X (compareOp .Eq) (rEqE K0) := by
  subst hK
  exact op_eqE hu
theorem pfk {K0 : PySem.W.Frag} {f : Str} (hK : X.K = K0) (he : PE X e ta) (hb : attributeBase e f X.env (eval e X.env) = eval e X.env) : PE X (.Attribute e f pos) (tFld K0 ta f) := by
  subst hK
  exact pe_fld he hb
def rNeE (K : PySem.W.Frag) : R2 := fun x y H Q => ∃ a b xs, x = .ref a ∧ y = .ref b ∧ SqL K H a xs ∧ SqL K H b [] ∧ Q (.bl (!xs.isEmpty)) H
theorem op_neE (hu : X.A.units + 64 < cLine) : OpR X (compareOp .NotEq) (rNeE X.K) := by
  intro pins s σ H x y v u Q I rx ry h
  obtain ⟨a, b, xs, rfl, rfl, h1, h2, q⟩ := h
  cases rx
  cases ry
  obtain ⟨its, r1, p1, _⟩ := I.list h1
  obtain ⟨its2, r2, p2, _⟩ := I.list h2
  cases r2
  cases r1 with
  | nil => exact SeqAt.RcNeAt.lists (e := fun _ => true) p1.isList p2.isList rfl (by omega) (fun j j1 _ => absurd j1 (by simp)) _ _ _ _ ⟨.bl _, H, I, rfl, q⟩
  | cons r t => exact SeqAt.RcNeAt.lists_lengths p1.isList p2.isList (by simp) (by omega) _ _ _ _ ⟨.bl _, H, I, rfl, q⟩
end

/-! ### steps of a reading -/
section
variable {K : PySem.W.Frag} {σ : L2.St} {H : Hp} {Q : VK} {ta tb te tv : TE} {tt tu : TT} {ts tz : TS} {D : Ends} {f m : Str} {C : Addr} {sp : Sp} {tl tr : TA} {i : Nat} {v : V}
def FldR (K : PySem.W.Frag) (f : Str) (x : V) (H : Hp) (Q : VK) : Prop := ∃ a C dx fs v, x = .ref a ∧ H a = some (.ins C dx fs) ∧ Cls K C ∧ NoAttr K C f ∧ fs.lookup f = some v ∧ Q v H
def StR (K : PySem.W.Frag) (f : Str) (y x : V) (H : Hp) (Nx : Hp → Prop) : Prop := ∃ a C dx fs, x = .ref a ∧ H a = some (.ins C dx fs) ∧ Cls K C ∧ NoAttr K C f ∧ fs.length < 1000 ∧ Nx (upd H a (.ins C dx (putF f y fs)))
def MthR (C : Addr) (m : Str) (x : V) (H : Hp) (R : Prop) : Prop := ∃ a dx fs, x = .ref a ∧ H a = some (.ins C dx fs) ∧ fs.lookup m = none ∧ R
theorem i_var (e : σ[i]? = some (some v)) (q : Q v H) : tVar i σ H Q := ⟨v, e, q⟩
theorem i_c (q : Q v H) : tC v σ H Q := q
theorem i_fld (h : ta σ H fun x H1 => FldR K f x H1 Q) : tFld K ta f σ H Q := h
theorem i_sfld (h : tv σ H fun y H1 => ta σ H1 fun x H2 => StR K f y x H2 fun H3 => D.nx σ H3) : sFld K ta tv f D σ H := by
  exact h
theorem i_seq (h : ts { D with nx := tz D } σ H) : tSeq ts tz D σ H := h
theorem i_asg (h : te σ H fun x H1 => D.nx (σ.set i (some x)) H1) : tAsg te (gName i) D σ H := h
theorem i_drop (h : te σ H fun _ H1 => D.nx σ H1) : tDrop te D σ H := h
theorem i_ret (h : te σ H D.rt) : tRet te D σ H := h
theorem i_next (h : D.nx σ H) : tNext D σ H := h
theorem i_if (h : tt σ H fun b H1 => if b = true then ts D σ H1 else tz D σ H1) : tIfS tt ts tz D σ H := h
theorem i_ife (h : tt σ H fun b H1 => if b = true then ta σ H1 Q else tb σ H1 Q) : tIf tt ta tb σ H Q := h
theorem i_op {r : R2} (h : ta σ H fun x H1 => tb σ H1 fun y H2 => r x y H2 Q) : tOp r ta tb σ H Q := h
theorem i_nil {R : List V → Hp → Prop} (h : R [] H) : tNil σ H R := h
theorem i_cons {R : List V → Hp → Prop} (h : te σ H fun x H1 => tr σ H1 fun xs H2 => R (x :: xs) H2) : tCons te tr σ H R := h
theorem i_call (h : tl σ H fun vs H1 => sp vs H1 Q E0) : tCall sp [] E0 tl σ H Q := by
  unfold tCall
  simp only [List.append_nil]
  exact h
theorem i_meth (h : ta σ H fun x H1 => MthR C m x H1 (tl σ H1 fun vs H2 => sp (x :: vs) H2 Q E0)) : tMeth C m sp [] E0 ta tl σ H Q := by
  unfold tMeth
  simp only [List.append_nil]
  exact h
theorem i_make (h : tl σ H fun vs H1 => ∀ x dx, H1 x = none → H1 dx = none → dx ≠ x → sp (.ref x :: vs) (upd (upd H1 dx (.own x)) x (.ins C dx [])) (fun v H2 => v = .non ∧ Q (.ref x) H2) E0) : tMake C sp [] E0 tl σ H Q := by
  unfold tMake
  simp only [List.append_nil]
  exact h
theorem i_cb {r : List V → Hp → VK → Prop} (h : tl σ H fun vs H1 => r vs H1 Q) : tCB r tl σ H Q := h
theorem i_lst (h : tl σ H fun xs H1 => xs.length ≤ sizeLine ∧ ∀ p, H1 p = none → Q (.ref p) (upd H1 p (.lst xs))) : tLst tl σ H Q := h
theorem i_tup (h : tl σ H fun xs H1 => xs.length ≤ sizeLine ∧ ∀ p, H1 p = none → Q (.ref p) (upd H1 p (.tup xs))) : tTup tl σ H Q := h
theorem i_not {R : Bool → Hp → Prop} (h : tt σ H fun c H1 => R (!c) H1) : tNot tt σ H R := h
theorem i_and {R : Bool → Hp → Prop} (h : tt σ H fun c H1 => if c = true then tu σ H1 R else R false H1) : tAnd tt tu σ H R := h
theorem i_or {R : Bool → Hp → Prop} (h : tt σ H fun c H1 => if c = true then R true H1 else tu σ H1 R) : tOr tt tu σ H R := h
theorem i_notV (h : ta σ H fun x H1 => ∃ c, x = .bl c ∧ Q (.bl (!c)) H1) : tNotV ta σ H Q := h
theorem i_andV (h : ta σ H fun x H1 => ∃ c, x = .bl c ∧ if c = true then tb σ H1 Q else Q (.bl false) H1) : tAndV ta tb σ H Q := h
theorem i_test {R : Bool → Hp → Prop} (h : te σ H fun x H1 => ∃ k, x = .bl k ∧ R k H1) : tTest te σ H R := h
theorem i_tB {R : Bool → Hp → Prop} (h : te σ H fun x H1 => ∃ k, x = .bl k ∧ R k H1) : tB te σ H R := h
theorem i_bl {b : Bool} {R : Bool → Prop} (h : R b) : ∃ k, V.bl b = .bl k ∧ R k := ⟨b, rfl, h⟩
theorem i_I0 {g : Int → Int → V} {a b : Int} (h : Q (g a b) H) : rI0 g (.int a) (.int b) H Q := ⟨a, b, rfl, rfl, h⟩
theorem i_eq {a b : Int} (h : Q (.bl (decide (a = b))) H) : rEq (.int a) (.int b) H Q := by
  refine ⟨rfl, ?_⟩
  have e : decide (V.int a = V.int b) = decide (a = b) := by simp
  rw [e]
  exact h
theorem i_ne {a b : Int} (h : Q (.bl (!decide (a = b))) H) : rNe (.int a) (.int b) H Q := by
  refine ⟨rfl, ?_⟩
  have e : decide (V.int a = V.int b) = decide (a = b) := by simp
  rw [e]
  exact h
theorem i_slice {r : V → Option Int → Option Int → Hp → VK → Prop} {tlo thi : TO} (h : te σ H fun x H1 => tlo σ H1 fun l H2 => thi σ H2 fun u H3 => r x l u H3 Q) : tSl r te tlo thi σ H Q := h
theorem i_nopart {R : Option Int → Hp → Prop} (h : R none H) : tNoPart σ H R := h
theorem i_part {R : Option Int → Hp → Prop} (h : te σ H fun x H1 => ∃ i, x = .int i ∧ R (some i) H1) : tPart te σ H R := h
theorem i_int {a : Int} {R : Int → Prop} (h : R a) : ∃ i, V.int a = .int i ∧ R i := ⟨a, rfl, h⟩
theorem i_bm {T : String} {r : V → List V → Hp → VK → Prop} (h : ta σ H fun x H1 => tyV K T x H1 ∧ tl σ H1 fun xs H2 => r x xs H2 Q) : tBM K T r ta tl σ H Q := h
theorem i_revL (h : te σ H fun x H1 => ∃ a xs, x = .ref a ∧ SqL K H1 a xs ∧ ∀ p, H1 p = none → Q (.ref p) (upd H1 p (.lst xs.reverse))) : tRevL K te σ H Q := h
theorem ite_dec {c A B : Prop} [Decidable c] (h1 : c → A) (h2 : ¬ c → B) : if decide c = true then A else B := by
  by_cases h : c
  · rw [if_pos (decide_eq_true h)]; exact h1 h
  · rw [if_neg (by rw [decide_eq_false h]; exact Bool.false_ne_true)]; exact h2 h
theorem ite_ndec {c A B : Prop} [Decidable c] (h1 : ¬ c → A) (h2 : c → B) : if (!decide c) = true then A else B := by
  by_cases h : c
  · rw [if_neg (by rw [decide_eq_true h]; exact Bool.false_ne_true)]; exact h2 h
  · rw [if_pos (by rw [decide_eq_false h]; rfl)]; exact h1 h
theorem ite_b {b : Bool} {A B : Prop} (h1 : b = true → A) (h2 : b = false → B) : if b = true then A else B := by
  cases b with
  | true => rw [if_pos rfl]; exact h1 rfl
  | false => rw [if_neg Bool.false_ne_true]; exact h2 rfl
theorem ite_nb {b : Bool} {A B : Prop} (h1 : b = false → A) (h2 : b = true → B) : if (!b) = true then A else B := by
  cases b with
  | true => rw [if_neg (by decide)]; exact h2 rfl
  | false => rw [if_pos (by rfl)]; exact h1 rfl
theorem i_dget {td ty : TE} (h : td σ H fun x H1 => ty σ H1 fun y H2 => ∃ a v, x = .ref a ∧ DGet H2 a y (some v) ∧ Q v H2) : tDGet td ty σ H Q := h
theorem i_din {td ty : TE} (h : ty σ H fun y H1 => td σ H1 fun x H2 => ∃ a o, x = .ref a ∧ DGet H2 a y o ∧ Q (.bl o.isSome) H2) : tDIn ty td σ H Q := h
theorem i_for {wi : TI} {g : TG} (h : wi σ H fun J H1 => ∃ W : Nat → Nat → L2.St → Hp → Prop, (∃ m, W 0 m σ H1) ∧ ∀ i m σ H, W i m σ H →
  (J.stop i H ∧ D.nx σ H) ∨ (J.go i H ∧ ∃ N : L2.St → Hp → Prop, (∀ σ' H', N σ' H' → ∃ m', m' < m ∧ W (i + 1) m' σ' H') ∧ ∀ x H', J.yld i H x H' → g x σ H' fun σ2 H2 => ts { D with nx := N, ct := N, bk := D.nx } σ2 H2)) : tFor wi g ts D σ H := h
theorem i_iL {R : It → Hp → Prop} (h : te σ H fun x H1 => ∃ a, x = .ref a ∧ (∃ xs, SqL K H1 a xs) ∧ R (Itl K a) H1) : iList K te σ H R := h
theorem i_iZ {R : It → Hp → Prop} (h : tl σ H fun vs H1 => ∃ a b xs ys, vs = [.ref a, .ref b] ∧ SqL K H1 a xs ∧ SqL K H1 b ys ∧ R (Itz K a b) H1) : iZip K tl σ H R := h
theorem i_par2 {j : Nat} (h : tl σ H fun vs H1 => ∃ v w, vs = [v, w] ∧ D.nx ((σ.set i (some v)).set j (some w)) H1) : tPar i j tl D σ H := h
theorem i_lc {wi : TI} {g : TG} {vs : List Nat} (h : wi σ H fun J H1 => ∀ D, H1 D = none → ∃ W : Nat → Nat → Hp → Prop, (∃ m, W 0 m (upd H1 D (.lst []))) ∧ ∀ i m H, W i m H →
  (J.stop i H ∧ Q (.ref D) H) ∨ (J.go i H ∧ ∃ Nx : Hp → Prop, (∀ H', Nx H' → ∃ m', m' < m ∧ W (i + 1) m' H') ∧ ∀ x H', J.yld i H x H' → g x (wipe σ vs) H' fun σ2 H2 => wipe σ2 vs = wipe σ vs ∧ tt σ2 H2 fun b H3 =>
    if b = true then te σ2 H3 fun y H4 => ∃ acc, H4 D = some (.lst acc) ∧ acc.length < sizeLine ∧ Nx (upd H4 D (.lst (acc ++ [y]))) else Nx H3)) : tLc wi g tt te vs σ H Q := h
theorem i_gn {R : L2.St → Hp → Prop} {y : V} (h : R (σ.set i (some y)) H) : gName i y σ H R := h
theorem i_asgG {g : TG} (h : te σ H fun x H1 => g x σ H1 D.nx) : tAsg te g D σ H := h
theorem i_yes {R : Bool → Hp → Prop} (h : R true H) : tYes σ H R := h
theorem i_mth {a dx : Addr} {fs : List (Str × V)} {R : Prop} (h : H a = some (.ins C dx fs)) (l : fs.lookup m = none) (q : R) : MthR C m (.ref a) H R := ⟨a, dx, fs, rfl, h, l, q⟩
theorem i_rd {a dx : Addr} {fs : List (Str × V)} (h : H a = some (.ins C dx fs)) (c : Cls K C) (n : NoAttr K C f) (l : fs.lookup f = some v) (q : Q v H) : FldR K f (.ref a) H Q := ⟨a, C, dx, fs, v, rfl, h, c, n, l, q⟩
theorem i_st {a dx : Addr} {fs : List (Str × V)} {y : V} {Nx : Hp → Prop} (h : H a = some (.ins C dx fs)) (c : Cls K C) (n : NoAttr K C f) (hl : fs.length < 1000) (q : Nx (upd H a (.ins C dx (putF f y fs)))) : StR K f y (.ref a) H Nx := ⟨a, C, dx, fs, rfl, h, c, n, hl, q⟩
end
end Ub
namespace Ub
open PySem L2
/-- one step that no choice hangs on -/
local macro_rules | `(tactic| walk_at "ub1") => `(tactic| first
  | with_reducible refine i_seq ?_ | with_reducible refine i_asg ?_ | with_reducible refine i_drop ?_ | with_reducible refine i_ret ?_ | with_reducible refine i_next ?_ | with_reducible refine i_if ?_ | with_reducible refine i_ife ?_
  | with_reducible refine i_op ?_ | with_reducible refine i_cons ?_ | with_reducible refine i_nil ?_ | with_reducible refine i_call ?_ | with_reducible refine i_meth ?_ | with_reducible refine i_make ?_ | with_reducible refine i_cb ?_
  | with_reducible refine i_lst ?_ | with_reducible refine i_tup ?_ | with_reducible refine i_not ?_ | with_reducible refine i_and ?_ | with_reducible refine i_or ?_ | with_reducible refine i_notV ?_ | with_reducible refine i_andV ?_
  | with_reducible refine i_test ?_ | with_reducible refine i_tB ?_ | with_reducible refine i_bl ?_ | with_reducible refine i_int ?_ | with_reducible refine i_I0 ?_ | with_reducible refine i_eq ?_ | with_reducible refine i_ne ?_
  | with_reducible refine i_slice ?_ | with_reducible refine i_nopart ?_ | with_reducible refine i_part ?_ | with_reducible refine i_bm ?_ | with_reducible refine i_revL ?_ | with_reducible refine i_fld ?_ | with_reducible refine i_sfld ?_
  | with_reducible refine i_dget ?_ | with_reducible refine i_din ?_ | with_reducible refine i_for ?_ | with_reducible refine i_iL ?_ | with_reducible refine i_iZ ?_ | with_reducible refine i_par2 ?_ | with_reducible refine i_lc ?_ | with_reducible refine i_gn ?_ | with_reducible refine i_asgG ?_ | with_reducible refine i_yes ?_ | with_reducible refine iteT ?_ | with_reducible refine iteF ?_ | refine i_var rfl ?_ | with_reducible refine i_c ?_)
/-! ### texts -/
section
variable {P : Program} {w : World} {K : PySem.W.Frag} {mg : Str → Option Value} {base : Heap} {C : Cl}
theorem cutV_to {xs : List V} {n : Nat} : cutV xs none (some (n : Int)) = xs.take n := by
  unfold cutV
  rw [HT.sIx_none, HT.sIx_nat, List.drop_zero, Nat.sub_zero]
  by_cases h : n ≤ xs.length
  · rw [Nat.min_eq_left h]
  · rw [Nat.min_eq_right (by omega), List.take_of_length_le (Nat.le_refl _), List.take_of_length_le (by omega)]
theorem cutV_from {xs : List V} {n : Nat} : cutV xs (some (n : Int)) none = xs.drop n := by
  unfold cutV
  rw [HT.sIx_none, HT.sIx_nat]
  by_cases h : n ≤ xs.length
  · rw [Nat.min_eq_left h, List.take_of_length_le (by rw [List.length_drop]; omega)]
  · rw [Nat.min_eq_right (by omega), List.drop_of_length_le (Nat.le_refl _), List.drop_of_length_le (by omega), List.take_nil]
theorem cutV_both {xs : List V} {n m : Nat} : cutV xs (some (n : Int)) (some (m : Int)) = (xs.drop n).take (m - n) := by
  unfold cutV
  rw [HT.sIx_nat, HT.sIx_nat]
  by_cases h : n ≤ xs.length
  · rw [Nat.min_eq_left h, List.take_eq_take_iff, List.length_drop]
    omega
  · rw [Nat.min_eq_right (show xs.length ≤ n by omega), List.drop_of_length_le (Nat.le_refl _), List.drop_of_length_le (by omega), List.take_nil, List.take_nil]
theorem big {n : Nat} (h : n ≤ 10000000) : n ≤ sizeLine := Nat.le_trans h (by decide)
theorem bigl {n : Nat} (h : n ≤ 10000000) : n < sizeLine := Nat.lt_of_le_of_lt h (by decide)
theorem put_vInts (t : List Nat) (p o : Nat) (u : List Nat) : Ue03.put (vInts t) p o (vInts u) = vInts (Ue03.put t p o u) := by
  unfold Ue03.put vInts
  rw [List.map_append, List.map_append, List.map_take, List.map_drop]
theorem put_len {A : Type} (t : List A) (p o : Nat) (u : List A) : (Ue03.put t p o u).length ≤ t.length + u.length := by
  unfold Ue03.put
  rw [List.length_append, List.length_append, List.length_take, List.length_drop]
  omega
/-- fields read -/
theorem rdC_position {H : Hp} {Q : VK} (T : Txt K mg C) {a dx ia : Addr} {c : Chg} (h : H a = some (.ins C.ch dx (chF c ia))) (q : Q (iV c.at_) H) : FldR K "position" (.ref a) H Q := i_rd h T.cCh T.nPosition rfl q
theorem rdC_removed {H : Hp} {Q : VK} (T : Txt K mg C) {a dx ia : Addr} {c : Chg} (h : H a = some (.ins C.ch dx (chF c ia))) (q : Q (iV c.out) H) : FldR K "removed" (.ref a) H Q := i_rd h T.cCh T.nRemoved rfl q
theorem rdC_inserted {H : Hp} {Q : VK} (T : Txt K mg C) {a dx ia : Addr} {c : Chg} (h : H a = some (.ins C.ch dx (chF c ia))) (q : Q (.ref ia) H) : FldR K "inserted" (.ref a) H Q := i_rd h T.cCh T.nInserted rfl q
def sp_exchanged (_K : PySem.W.Frag) (C : Cl) : Sp := fun vs H Q _ => vs.length = 3 ∧ ∃ (G : Gh) (a c b : Addr) (xs ys : List V) (ch : Chg), vs = [.ref a, .ref c, .ref b] ∧ H a = some (.lst xs) ∧ ChAt C G H c ch ∧ H b = some (.lst ys) ∧ xs.length + ys.length ≤ 10000000 ∧
  ∀ H' p, Same H H' → H p = none → H' p = some (.lst (Ue03.put xs ch.at_ ch.out ys)) → Q (.ref p) H'
abbrev s_exchanged : Stmt := topS 17
theorem sc_exchanged : FnScope ["row", "change", "inserted"] ["row", "change", "inserted"] (defScope s_exchanged) := ⟨rfl, rfl, rfl, by decide +kernel, rfl, by decide +kernel, by decide +kernel⟩
theorem b_exchanged : Bind "exchanged" "exchanged" s_exchanged ["row", "change", "inserted"] := fun _ _ _ _ _ _ us hl => match us, hl with | [_, _, _], _ => rfl
theorem ok_exchanged (T : Txt K mg C) (D : DefF K mg "exchanged" s_exchanged) : CalF P w K mg base 1 "exchanged" ["row", "change", "inserted"] (sp_exchanged K C) := by
  refine D.cal b_exchanged fun f fd F => F.ok sc_exchanged (fun vs H Q E h => h.1) (fun cdv A outer s H vs Q E hr h => ?_)
  have hu := hu_of hr
  refine ⟨_, (pss_one (ps_ret (pe_op op_cat (pe_op op_cat (pe_slice sl_list (pv 0) po_none (po_some (pe_fld (pv 1) rfl))) (pv 2)) (pe_slice sl_list (pv 0) (po_some (pe_op op_add (pe_fld (pv 1) rfl) (pe_fld (pv 1) rfl))) po_none)))), ?_⟩
  obtain ⟨_, G, a, c, b, xs, ys, ch, rfl, ha, hc, hb, hl, k⟩ := h
  obtain ⟨dx, ia, h1, h2, h3⟩ := hc.ex
  repeat walk_at "ub1"
  refine rdC_position T h1 ?_
  repeat walk_at "ub1"
  refine ⟨a, xs, rfl, SqL.of ha, fun p1 n1 => ?_⟩
  have s1 := Same.new (o := .lst (cutV xs none (some (ch.at_ : Int)))) n1
  repeat walk_at "ub1"
  refine ⟨p1, b, _, ys, rfl, rfl, upd_same, s1 _ _ hb, big (by rw [cutV_to, List.length_take]; omega), fun p2 n2 => ?_⟩
  have s2 := s1.trans (Same.new (o := .lst (cutV xs none (some (ch.at_ : Int)) ++ ys)) n2)
  repeat walk_at "ub1"
  refine rdC_position T (s2 _ _ h1) ?_
  repeat walk_at "ub1"
  refine rdC_removed T (s2 _ _ h1) ?_
  repeat walk_at "ub1"
  refine ⟨a, xs, rfl, SqL.of (s2 _ _ ha), fun p3 n3 => ?_⟩
  have e : (ch.at_ : Int) + (ch.out : Int) = ((ch.at_ + ch.out : Nat) : Int) := by omega
  rw [e, cutV_from, cutV_to] at *
  have s3 := s2.trans (Same.new (o := .lst (xs.drop (ch.at_ + ch.out))) n3)
  refine ⟨p2, p3, _, _, rfl, rfl, Eq.trans (upd_ne (ne_of_none upd_same n3)) upd_same, upd_same, big (by rw [List.length_append, List.length_take, List.length_drop]; omega), fun p4 n4 => ?_⟩
  refine k _ _ (s3.trans (Same.new n4)) (s3.free n4) ?_
  rw [upd_same]
  unfold Ue03.put
  rw [List.append_assoc]
theorem changed_vInts (t : List Nat) (c : Chg) : Ue03.put (vInts t) c.at_ c.out (vInts c.in_) = vInts (Ue03.changed t c) := put_vInts _ _ _ _
def sp_changed (_K : PySem.W.Frag) (C : Cl) : Sp := fun vs H Q _ => vs.length = 2 ∧ ∃ (G : Gh) (a c : Addr) (t : List Nat) (ch : Chg), vs = [.ref a, .ref c] ∧ H a = some (.lst (vInts t)) ∧ ChAt C G H c ch ∧ t.length + ch.in_.length ≤ 10000000 ∧
  ∀ H' p, Same H H' → H p = none → H' p = some (.lst (vInts (Ue03.changed t ch))) → Q (.ref p) H'
abbrev s_changed : Stmt := topS 18
theorem sc_changed : FnScope ["text", "change"] ["text", "change"] (defScope s_changed) := ⟨rfl, rfl, rfl, by decide +kernel, rfl, by decide +kernel, by decide +kernel⟩
theorem b_changed : Bind "changed" "changed" s_changed ["text", "change"] := fun _ _ _ _ _ _ us hl => match us, hl with | [_, _], _ => rfl
theorem ok_changed (T : Txt K mg C) (D : DefF K mg "changed" s_changed) (c_exchanged : CalF P w K mg base 1 "exchanged" ["row", "change", "inserted"] (sp_exchanged K C)) : CalF P w K mg base 2 "changed" ["text", "change"] (sp_changed K C) := by
  refine D.cal b_changed fun f fd F => F.ok sc_changed (fun vs H Q E h => h.1) (fun cdv A outer s H vs Q E hr h => ?_)
  have hu := hu_of hr
  refine ⟨_, (pss_one (ps_ret (pf c_exchanged hr (by decide) (by rfl) (pa_cons (pv 0) (pa_cons (pv 1) (pa_cons (pe_fld (pv 1) rfl) pa_nil)))))), ?_⟩
  obtain ⟨_, G, a, c, t, ch, rfl, ha, hc, hl, k⟩ := h
  obtain ⟨dx, ia, h1, h2, h3, h4⟩ := id hc.ex
  repeat walk_at "ub1"
  refine rdC_inserted T h1 ?_
  repeat walk_at "ub1"
  refine ⟨rfl, G, a, c, ia, _, _, ch, rfl, ha, hc, h3, by rw [vInts_len, vInts_len]; exact hl, fun H' p s n e => k H' p s n ?_⟩
  rw [e, changed_vInts]
def sp_removed_bytes (_K : PySem.W.Frag) (C : Cl) : Sp := fun vs H Q _ => vs.length = 2 ∧ ∃ (G : Gh) (a c : Addr) (t : List Nat) (ch : Chg), vs = [.ref a, .ref c] ∧ H a = some (.lst (vInts t)) ∧ ChAt C G H c ch ∧
  ∀ H' p, Same H H' → H p = none → H' p = some (.lst (vInts (cutOut t ch))) → Q (.ref p) H'
abbrev s_removed_bytes : Stmt := topS 19
theorem sc_removed_bytes : FnScope ["text", "change"] ["text", "change"] (defScope s_removed_bytes) := ⟨rfl, rfl, rfl, by decide +kernel, rfl, by decide +kernel, by decide +kernel⟩
theorem b_removed_bytes : Bind "removed_bytes" "removed_bytes" s_removed_bytes ["text", "change"] := fun _ _ _ _ _ _ us hl => match us, hl with | [_, _], _ => rfl
theorem ok_removed_bytes (T : Txt K mg C) (D : DefF K mg "removed_bytes" s_removed_bytes) : CalF P w K mg base 1 "removed_bytes" ["text", "change"] (sp_removed_bytes K C) := by
  refine D.cal b_removed_bytes fun f fd F => F.ok sc_removed_bytes (fun vs H Q E h => h.1) (fun cdv A outer s H vs Q E hr h => ?_)
  have hu := hu_of hr
  refine ⟨_, (pss_one (ps_ret (pe_slice sl_list (pv 0) (po_some (pe_fld (pv 1) rfl)) (po_some (pe_op op_add (pe_fld (pv 1) rfl) (pe_fld (pv 1) rfl)))))), ?_⟩
  obtain ⟨_, G, a, c, t, ch, rfl, ha, hc, k⟩ := h
  obtain ⟨dx, ia, h1, h2, h3, h4⟩ := id hc.ex
  repeat walk_at "ub1"
  refine rdC_position T h1 ?_
  repeat walk_at "ub1"
  refine rdC_position T h1 ?_
  repeat walk_at "ub1"
  refine rdC_removed T h1 ?_
  repeat walk_at "ub1"
  refine ⟨a, _, rfl, SqL.of ha, fun p1 n1 => ?_⟩
  have e : (ch.at_ : Int) + (ch.out : Int) = ((ch.at_ + ch.out : Nat) : Int) := by omega
  rw [e, cutV_both]
  refine k _ _ (Same.new n1) n1 ?_
  rw [upd_same, Nat.add_sub_cancel_left]
  unfold cutOut vInts
  rw [List.map_take, List.map_drop]
def sp_are_bytes (_K : PySem.W.Frag) (_C : Cl) : Sp := fun vs H Q _ => vs.length = 1 ∧ ∃ (a : Addr) (t : List Nat), vs = [.ref a] ∧ H a = some (.lst (vInts t)) ∧ t.length ≤ 10000000 ∧
  ∀ H', Same H H' → Q (.bl (areBytes t)) H'
theorem vInts_at {t : List Nat} {i : Nat} {x : V} (h : (vInts t)[i]? = some x) : ∃ n, t[i]? = some n ∧ x = iV n := by
  unfold vInts at h
  rw [List.getElem?_map] at h
  cases e : t[i]? with
  | none => rw [e] at h; cases h
  | some n => rw [e] at h; exact ⟨n, rfl, (Option.some.inj h).symm⟩
theorem take_more {A : Type} : ∀ {l : List A} {i : Nat} {x : A}, l[i]? = some x → l.take (i + 1) = l.take i ++ [x]
  | [], i, x, h => by simp at h
  | a :: l, 0, x, h => by
    have e : a = x := Option.some.inj h
    subst e
    rfl
  | a :: l, i + 1, x, h => by
    have ih := take_more (l := l) (i := i) (x := x) h
    show a :: l.take (i + 1) = a :: l.take i ++ [x]
    rw [ih]
    rfl
abbrev s_are_bytes : Stmt := topS 16
theorem sc_are_bytes : FnScope ["row", "number"] ["row"] (defScope s_are_bytes) := ⟨rfl, rfl, rfl, by decide +kernel, rfl, by decide +kernel, by decide +kernel⟩
theorem b_are_bytes : Bind "are_bytes" "are_bytes" s_are_bytes ["row"] := fun _ _ _ _ _ _ us hl => match us, hl with | [_], _ => rfl
theorem ok_are_bytes (T : Txt K mg C) (D : DefF K mg "are_bytes" s_are_bytes) : CalF P w K mg base 1 "are_bytes" ["row"] (sp_are_bytes K C) := by
  refine D.cal b_are_bytes fun f fd F => F.ok sc_are_bytes (fun vs H Q E h => h.1) (fun cdv A outer s H vs Q E hr h => ?_)
  have hu := hu_of hr
  refine ⟨_, (pss_one (ps_ret (pe_callB (cr_all rfl) (by rfl) T.all (by decide +kernel) (pa_cons (pe_lc (own := [("number", 1)]) (g := gName 1) rfl sc_are_bytes.nd (pi_list (pv 0)) (blkOk_by (own := [("number", 1)]) (N := ["row", "number"]) (sc := defScope s_are_bytes) (by decide +kernel)) (fun _ _ _ _ _ => pg_name (i := 1) sc_are_bytes.nd rfl (Or.inl rfl)) (fun _ _ _ _ _ => pts_nil) (fun _ _ _ _ _ => by exact (pe_cmpR op_le (pv 1) (pk T.kGREATEST_BYTE rfl) (nomark _)))) pa_nil)))), ?_⟩
  obtain ⟨_, a, t, rfl, ha, hl, k⟩ := h
  repeat walk_at "ub1"
  refine ⟨a, rfl, ⟨_, SqL.of ha⟩, fun D hD => ?_⟩
  have s1 := Same.new (o := .lst []) hD
  refine lc_list (K := K) (a := a) (xs := vInts t) (fun i H' => Same H H' ∧ H' D = some (.lst ((t.take i).map fun n => V.bl (decide (n ≤ 255))))) ⟨s1, upd_same⟩ (fun i H' _ ⟨s, _⟩ => SqL.of (s _ _ ha)) ?_ ?_
  · rintro i x H' hi ⟨s, hd⟩
    obtain ⟨n, hn, rfl⟩ := vInts_at hi
    refine ⟨rfl, ?_⟩
    repeat walk_at "ub1"
    have hlt : i < t.length := (List.getElem?_eq_some_iff.mp hn).1
    refine ⟨_, hd, bigl (by rw [List.length_map, List.length_take]; omega), fun b o e => ?_, ?_⟩
    · rw [upd_ne (ne_of_none e hD)]
      exact s b o e
    · rw [upd_same, take_more hn, List.map_append]
      have e : decide ((n : Int) ≤ 255) = decide (n ≤ 255) := by
        rw [decide_eq_decide]
        omega
      simp [e]
  · rintro H' ⟨s, hd⟩
    refine ⟨D, (t.map fun n => decide (n ≤ 255)), rfl, SqL.of ?_, ?_⟩
    · rw [hd, vInts_len, List.take_length, List.map_map]
      rfl
    · have e : (t.map fun n => decide (n ≤ 255)).all id = areBytes t := by
        unfold areBytes
        rw [List.all_map]
        rfl
      rw [e]
      exact k _ s
def sp_Change_init (_K : PySem.W.Frag) (C : Cl) : Sp := fun vs H Q _ => vs.length = 4 ∧ ∃ (p dx ia : Addr) (a o : Nat), vs = [.ref p, iV a, iV o, .ref ia] ∧ H p = some (.ins C.ch dx []) ∧
  ∀ H' : Hp, H' p = some (.ins C.ch dx [("position", iV a), ("removed", iV o), ("inserted", .ref ia)]) → (∀ b u, H b = some u → b ≠ p → H' b = some u) → Q .non H'
abbrev s_Change_init : Stmt := inClass (topS 15) 0
theorem sc_Change_init : FnScope ["self", "position", "removed", "inserted"] ["self", "position", "removed", "inserted"] (defScope s_Change_init) := ⟨rfl, rfl, rfl, by decide +kernel, rfl, by decide +kernel, by decide +kernel⟩
theorem b_Change_init : Bind "__init__" "Change.__init__" s_Change_init ["self", "position", "removed", "inserted"] := fun _ _ _ _ _ _ us hl => match us, hl with | [_, _, _, _], _ => rfl
theorem ok_Change_init (T : Txt K mg C) (D : DefI K C.ch "Change.__init__" s_Change_init) : CalI P w K mg base 1 C.ch ["self", "position", "removed", "inserted"] (sp_Change_init K C) := by
  refine D.cal b_Change_init fun f fd F => F.ok sc_Change_init (fun vs H Q E h => h.1) (fun cdv A outer s H vs Q E hr h => ?_)
  have hu := hu_of hr
  refine ⟨_, (pss_cons (ps_fld (pv 0) (pv 1) rfl)
        (pss_cons (ps_fld (pv 0) (pv 2) rfl)
        (pss_one (ps_fld (pv 0) (pv 3) rfl)))), ?_⟩
  obtain ⟨_, p, dx, ia, a, o, rfl, hp, k⟩ := h
  repeat walk_at "ub1"
  refine i_st hp T.cCh T.nPosition (by decide) ?_
  repeat walk_at "ub1"
  refine i_st upd_same T.cCh T.nRemoved (by show 1 < 1000; decide) ?_
  repeat walk_at "ub1"
  refine i_st upd_same T.cCh T.nInserted (by show 2 < 1000; decide) ?_
  refine k _ upd_same fun b u e hb => ?_
  rw [upd_ne hb, upd_ne hb, upd_ne hb]
  exact e
end
/-! ### trees: what is read -/
section
variable {P : Program} {w : World} {K : PySem.W.Frag} {mg : Str → Option Value} {base : Heap} {C : Cl} {G : Gh} {H : Hp} {Q : VK} {M : Tr} {n : Nat} {x : Nd}
theorem TreeAt.st (h : TreeAt C G H M) (hx : M.find n = some x) : StAt C G H x ∧ x.number = n := ⟨h.sts x (mem_of_find hx).1, (mem_of_find hx).2⟩
theorem rdT_states (T : Txt K mg C) (h : TreeAt C G H M) (q : Q (.ref G.d) H) : FldR K "states" (.ref G.t) H Q := let ⟨_, e⟩ := h.obj; i_rd e T.cTr T.nStates rfl q
theorem rdT_root (T : Txt K mg C) (h : TreeAt C G H M) (q : Q (iV M.root) H) : FldR K "root" (.ref G.t) H Q := let ⟨_, e⟩ := h.obj; i_rd e T.cTr T.nRoot rfl q
theorem rdT_current (T : Txt K mg C) (h : TreeAt C G H M) (q : Q (iV M.current) H) : FldR K "current" (.ref G.t) H Q := let ⟨_, e⟩ := h.obj; i_rd e T.cTr T.nCurrent rfl q
theorem rdT_coming (T : Txt K mg C) (h : TreeAt C G H M) (q : Q (iV M.coming) H) : FldR K "coming" (.ref G.t) H Q := let ⟨_, e⟩ := h.obj; i_rd e T.cTr T.nComing rfl q
theorem mtT {m : Str} {R : Prop} (h : TreeAt C G H M) (q : R) (l : ∀ a b c d : V, List.lookup m [(("states" : Str), a), ("root", b), ("current", c), ("coming", d)] = none := by intros; rfl) : MthR C.tr m (.ref G.t) H R := let ⟨_, e⟩ := h.obj; i_mth e (l _ _ _ _) q
theorem rdS_number (T : Txt K mg C) (h : TreeAt C G H M) (hx : M.find n = some x) (q : Q (iV x.number) H) : FldR K "number" (.ref (G.ad n)) H Q := by
  obtain ⟨s, rfl⟩ := h.st hx
  obtain ⟨dx, ca, ta, ka, as, e, _⟩ := s.ex
  exact i_rd e T.cSt T.nNumber rfl q
theorem rdS_parent (T : Txt K mg C) (h : TreeAt C G H M) (hx : M.find n = some x) (q : Q (.int (encP x.parent)) H) : FldR K "parent" (.ref (G.ad n)) H Q := by
  obtain ⟨s, rfl⟩ := h.st hx
  obtain ⟨dx, ca, ta, ka, as, e, _⟩ := s.ex
  exact i_rd e T.cSt T.nParent rfl q
theorem rdS_time (T : Txt K mg C) (h : TreeAt C G H M) (hx : M.find n = some x) (q : Q (iV x.time) H) : FldR K "time" (.ref (G.ad n)) H Q := by
  obtain ⟨s, rfl⟩ := h.st hx
  obtain ⟨dx, ca, ta, ka, as, e, _⟩ := s.ex
  exact i_rd e T.cSt T.nTime rfl q
theorem rdS_kept (T : Txt K mg C) (h : TreeAt C G H M) (hx : M.find n = some x) (q : Q (.bl x.kept) H) : FldR K "is_kept" (.ref (G.ad n)) H Q := by
  obtain ⟨s, rfl⟩ := h.st hx
  obtain ⟨dx, ca, ta, ka, as, e, _⟩ := s.ex
  exact i_rd e T.cSt T.nKept rfl q
theorem rdS_visited (T : Txt K mg C) (h : TreeAt C G H M) (hx : M.find n = some x) (q : Q (.int (encP x.visited)) H) : FldR K "visited" (.ref (G.ad n)) H Q := by
  obtain ⟨s, rfl⟩ := h.st hx
  obtain ⟨dx, ca, ta, ka, as, e, _⟩ := s.ex
  exact i_rd e T.cSt T.nVisited rfl q
theorem rdS_text (T : Txt K mg C) (h : TreeAt C G H M) (hx : M.find n = some x) (q : ∀ ta, TextAt G H ta x.text → Q (.ref ta) H) : FldR K "text" (.ref (G.ad n)) H Q := by
  obtain ⟨s, rfl⟩ := h.st hx
  obtain ⟨dx, ca, ta, ka, as, e, _, _, t, _⟩ := s.ex
  exact i_rd e T.cSt T.nText rfl (q ta t)
theorem rdS_changes (T : Txt K mg C) (h : TreeAt C G H M) (hx : M.find n = some x) (q : ∀ ca as, H ca = some (.lst (as.map V.ref)) → G.L ca = none → ChsAt C G H as x.changes → Q (.ref ca) H) : FldR K "changes" (.ref (G.ad n)) H Q := by
  obtain ⟨s, rfl⟩ := h.st hx
  obtain ⟨dx, ca, ta, ka, as, e, _, ⟨c1, c2, c3⟩, _⟩ := s.ex
  exact i_rd e T.cSt T.nChanges rfl (q ca as c1 c2 c3)
theorem rdS_children (T : Txt K mg C) (h : TreeAt C G H M) (hx : M.find n = some x) (q : ∀ ka, H ka = some (.lst (vInts x.children)) → G.L ka = some (.ch n) → Q (.ref ka) H) : FldR K "children" (.ref (G.ad n)) H Q := by
  obtain ⟨s, rfl⟩ := h.st hx
  obtain ⟨dx, ca, ta, ka, as, e, _, _, _, k1, k2⟩ := s.ex
  exact i_rd e T.cSt T.nChildren rfl (q ka k1 k2)
theorem mtS {m : Str} {R : Prop} (h : TreeAt C G H M) (hx : M.find n = some x) (q : R) (l : ∀ a b c d e f g h : V, List.lookup m [(("number" : Str), a), ("parent", b), ("changes", c), ("text", d), ("time", e), ("is_kept", f), ("children", g), ("visited", h)] = none := by intros; rfl) : MthR C.st m (.ref (G.ad n)) H R := by
  obtain ⟨s, rfl⟩ := h.st hx
  obtain ⟨dx, ca, ta, ka, as, e, _⟩ := s.ex
  exact i_mth e (l _ _ _ _ _ _ _ _) q
theorem valV_kvs (M : Tr) (ad : Nat → Addr) (n : Nat) : valV (kvs M ad) (Sum.inl (n : Int)) = (M.find n).map fun _ => V.ref (ad n) := by
  unfold valV kvs Tr.find
  rw [List.find?_map]
  have e : ((fun kv : Key × V => decide (kv.1 = (Sum.inl (n : Int) : Key))) ∘ fun x : Nd => ((Sum.inl (x.number : Int) : Key), V.ref (ad x.number))) = fun x : Nd => x.number == n := by
    funext y
    show decide ((Sum.inl (y.number : Int) : Key) = Sum.inl (n : Int)) = (y.number == n)
    rw [key_ll]
    rw [Bool.eq_iff_iff]
    simp
    omega
  rw [e]
  cases h : M.nodes.find? fun x => x.number == n with
  | none => rfl
  | some y =>
    have := List.find?_some h
    simp at this
    simp [this]
theorem dgetT (h : TreeAt C G H M) : DGet H G.d (iV n) ((M.find n).map fun _ => V.ref (G.ad n)) := by
  have := DGet.k (k := Sum.inl (n : Int)) h.dict
  rw [valV_kvs] at this
  exact this
/-- self.states[n] -/
theorem atT {R : V → Prop} (h : TreeAt C G H M) (hx : M.find n = some x) (q : R (.ref (G.ad n))) : ∃ a v, V.ref G.d = .ref a ∧ DGet H a (iV n) (some v) ∧ R v := by
  have := dgetT (n := n) h
  rw [hx] at this
  exact ⟨_, _, rfl, this, q⟩
theorem int_ne {a b : Nat} : ((a : Int) = (b : Int)) ↔ a = b := by omega

def sp_Tree_has (_K : PySem.W.Frag) (C : Cl) : Sp := fun vs H Q _ => vs.length = 2 ∧ ∃ (G : Gh) (M : Tr) (n : Nat), vs = [.ref G.t, iV n] ∧ TreeAt C G H M ∧ Q (.bl (M.has n)) H
abbrev s_Tree_has : Stmt := inClass (topS 32) 1
theorem sc_Tree_has : FnScope ["self", "number"] ["self", "number"] (defScope s_Tree_has) := ⟨rfl, rfl, rfl, by decide +kernel, rfl, by decide +kernel, by decide +kernel⟩
theorem b_Tree_has : Bind "has" "Tree.has" s_Tree_has ["self", "number"] := fun _ _ _ _ _ _ us hl => match us, hl with | [_, _], _ => rfl
theorem ok_Tree_has (T : Txt K mg C) (D : DefM K C.tr "has" "Tree.has" s_Tree_has) : CalM P w K mg base 1 C.tr "has" ["self", "number"] (sp_Tree_has K C) := by
  refine D.cal b_Tree_has fun f fd F => F.ok sc_Tree_has (fun vs H Q E h => h.1) (fun cdv A outer s H vs Q E hr h => ?_)
  have hu := hu_of hr
  refine ⟨_, (pss_one (ps_ret (pe_cmp (pc_din hu (pv 1) (pe_fld (pv 0) rfl)) (by rfl)))), ?_⟩
  obtain ⟨_, G, M, n, rfl, tr, k⟩ := h
  repeat walk_at "ub1"
  refine rdT_states T tr ?_
  refine ⟨G.d, _, rfl, dgetT tr, ?_⟩
  rw [Option.isSome_map]
  exact k
def sp_Tree_state (_K : PySem.W.Frag) (C : Cl) : Sp := fun vs H Q _ => vs.length = 2 ∧ ∃ (G : Gh) (M : Tr) (n : Nat) (x : Nd), vs = [.ref G.t, iV n] ∧ TreeAt C G H M ∧ M.find n = some x ∧ Q (.ref (G.ad n)) H
abbrev s_Tree_state : Stmt := inClass (topS 32) 3
theorem sc_Tree_state : FnScope ["self", "number"] ["self", "number"] (defScope s_Tree_state) := ⟨rfl, rfl, rfl, by decide +kernel, rfl, by decide +kernel, by decide +kernel⟩
theorem b_Tree_state : Bind "state" "Tree.state" s_Tree_state ["self", "number"] := fun _ _ _ _ _ _ us hl => match us, hl with | [_, _], _ => rfl
theorem ok_Tree_state (T : Txt K mg C) (D : DefM K C.tr "state" "Tree.state" s_Tree_state) : CalM P w K mg base 1 C.tr "state" ["self", "number"] (sp_Tree_state K C) := by
  refine D.cal b_Tree_state fun f fd F => F.ok sc_Tree_state (fun vs H Q E h => h.1) (fun cdv A outer s H vs Q E hr h => ?_)
  have hu := hu_of hr
  refine ⟨_, (pss_one (ps_ret (pe_dget hu (pe_fld (pv 0) rfl) (pv 1) (fun _ _ => rfl)))), ?_⟩
  obtain ⟨_, G, M, n, x, rfl, tr, hx, k⟩ := h
  repeat walk_at "ub1"
  refine rdT_states T tr ?_
  repeat walk_at "ub1"
  exact atT tr hx k
def sp_Tree_here (_K : PySem.W.Frag) (C : Cl) : Sp := fun vs H Q _ => vs.length = 1 ∧ ∃ (G : Gh) (M : Tr) (x : Nd), vs = [.ref G.t] ∧ TreeAt C G H M ∧ M.find M.current = some x ∧ Q (.ref (G.ad M.current)) H
abbrev s_Tree_here : Stmt := inClass (topS 32) 4
theorem sc_Tree_here : FnScope ["self"] ["self"] (defScope s_Tree_here) := ⟨rfl, rfl, rfl, by decide +kernel, rfl, by decide +kernel, by decide +kernel⟩
theorem b_Tree_here : Bind "here" "Tree.here" s_Tree_here ["self"] := fun _ _ _ _ _ _ us hl => match us, hl with | [_], _ => rfl
theorem ok_Tree_here (T : Txt K mg C) (D : DefM K C.tr "here" "Tree.here" s_Tree_here) : CalM P w K mg base 1 C.tr "here" ["self"] (sp_Tree_here K C) := by
  refine D.cal b_Tree_here fun f fd F => F.ok sc_Tree_here (fun vs H Q E h => h.1) (fun cdv A outer s H vs Q E hr h => ?_)
  have hu := hu_of hr
  refine ⟨_, (pss_one (ps_ret (pe_dget hu (pe_fld (pv 0) rfl) (pe_fld (pv 0) rfl) (fun _ _ => rfl)))), ?_⟩
  obtain ⟨_, G, M, x, rfl, tr, hx, k⟩ := h
  repeat walk_at "ub1"
  refine rdT_states T tr ?_
  repeat walk_at "ub1"
  refine rdT_current T tr ?_
  exact atT tr hx k
def sp_Tree_numbers (_K : PySem.W.Frag) (C : Cl) : Sp := fun vs H Q _ => vs.length = 1 ∧ ∃ (G : Gh) (M : Tr), vs = [.ref G.t] ∧ TreeAt C G H M ∧ WF M ∧ ∀ H' p, Same H H' → H p = none → H' p = some (.lst (vInts M.nums)) → Q (.ref p) H'
theorem keys_kvs (M : Tr) (ad : Nat → Addr) : (kvs M ad).map (fun kv => kV kv.1) = (M.nums.map fun (n : Nat) => (n : Int)).map V.int := by
  unfold kvs Tr.nums
  rw [List.map_map, List.map_map, List.map_map]
  rfl
theorem ints_inc {l : List Nat} (h : l.Pairwise (· < ·)) : (l.map fun (n : Nat) => (n : Int)).Pairwise (· ≤ ·) := by
  rw [List.pairwise_map]
  exact h.imp fun h => by omega
abbrev s_Tree_numbers : Stmt := inClass (topS 32) 2
theorem sc_Tree_numbers : FnScope ["self"] ["self"] (defScope s_Tree_numbers) := ⟨rfl, rfl, rfl, by decide +kernel, rfl, by decide +kernel, by decide +kernel⟩
theorem b_Tree_numbers : Bind "numbers" "Tree.numbers" s_Tree_numbers ["self"] := fun _ _ _ _ _ _ us hl => match us, hl with | [_], _ => rfl
theorem ok_Tree_numbers (T : Txt K mg C) (D : DefM K C.tr "numbers" "Tree.numbers" s_Tree_numbers) : CalM P w K mg base 1 C.tr "numbers" ["self"] (sp_Tree_numbers K C) := by
  refine D.cal b_Tree_numbers fun f fd F => F.ok sc_Tree_numbers (fun vs H Q E h => h.1) (fun cdv A outer s H vs Q E hr h => ?_)
  have hu := hu_of hr
  refine ⟨_, (pss_one (ps_ret (pe_callB cr_sortedI (by rfl) T.sorted (by decide +kernel) (pa_cons (pe_callTy (call_list_dK rfl) (by rfl) T.list (by decide +kernel) (pa_cons (pe_fld (pv 0) rfl) pa_nil)) pa_nil)))), ?_⟩
  obtain ⟨_, G, M, rfl, tr, W, k⟩ := h
  repeat walk_at "ub1"
  refine rdT_states T tr ?_
  repeat walk_at "ub1"
  refine ⟨G.d, kvs M G.ad, rfl, tr.dict, fun p1 n1 => ?_⟩
  have s1 := Same.new (o := .lst ((kvs M G.ad).map fun kv => kV kv.1)) n1
  repeat walk_at "ub1"
  refine ⟨p1, M.nums.map fun (n : Nat) => (n : Int), rfl, SqL.of (by rw [upd_same, keys_kvs]), fun ns' p2 pm inc n2 => ?_⟩
  have e : ns' = M.nums.map fun (n : Nat) => (n : Int) := List.Perm.eq_of_pairwise (fun a b _ _ h1 h2 => by omega) inc (ints_inc (nums_inc W)) pm
  subst e
  refine k _ _ (s1.trans (Same.new n2)) (s1.free n2) ?_
  rw [upd_same]
  unfold vInts
  rw [List.map_map]
  rfl
def sp_State_preferred (_K : PySem.W.Frag) (C : Cl) : Sp := fun vs H Q _ => vs.length = 1 ∧ ∃ (G : Gh) (M : Tr) (n : Nat) (x : Nd), vs = [.ref (G.ad n)] ∧ TreeAt C G H M ∧ M.find n = some x ∧ x.children ≠ [] ∧ Q (iV x.preferred) H
theorem flat_vInts (l : List Nat) : (vInts l).all flatV = true := by
  rw [List.all_eq_true]
  intro v hv
  obtain ⟨n, _, rfl⟩ := List.mem_map.mp hv
  rfl
theorem eqV_ints (a b : Int) : eqV (.int a) (.int b) = decide (a = b) := by
  show (a == b) = decide (a = b)
  rw [Bool.eq_iff_iff]
  simp
theorem inV_vInts (o : Option Nat) (l : List Nat) : inV (.int (encP o)) (vInts l) = match o with | some v => l.contains v | none => false := by
  unfold inV vInts
  rw [List.any_map]
  cases o with
  | none =>
    rw [Bool.eq_iff_iff]
    simp only [List.any_eq_true, Function.comp, eqV_ints, decide_eq_true_eq]
    constructor
    · rintro ⟨y, _, e⟩
      have e' : (y : Int) = -1 := e
      omega
    · intro h
      cases h
  | some v =>
    rw [Bool.eq_iff_iff]
    simp only [List.any_eq_true, Function.comp, eqV_ints, decide_eq_true_eq, List.contains_iff_mem]
    constructor
    · rintro ⟨y, hy, e⟩
      have e' : (y : Int) = v := e
      have e2 : y = v := by omega
      exact e2 ▸ hy
    · intro h
      exact ⟨v, h, rfl⟩
abbrev s_State_preferred : Stmt := inClass (topS 31) 1
theorem sc_State_preferred : FnScope ["self"] ["self"] (defScope s_State_preferred) := ⟨rfl, rfl, rfl, by decide +kernel, rfl, by decide +kernel, by decide +kernel⟩
theorem b_State_preferred : Bind "preferred" "State.preferred" s_State_preferred ["self"] := fun _ _ _ _ _ _ us hl => match us, hl with | [_], _ => rfl
theorem ok_State_preferred (T : Txt K mg C) (D : DefM K C.st "preferred" "State.preferred" s_State_preferred) : CalM P w K mg base 1 C.st "preferred" ["self"] (sp_State_preferred K C) := by
  refine D.cal b_State_preferred fun f fd F => F.ok sc_State_preferred (fun vs H Q E h => h.1) (fun cdv A outer s H vs Q E hr h => ?_)
  have hu := hu_of hr
  refine ⟨_, (pss_one (ps_ret (pe_ifExp (pt_cmpR op_in_seq (pe_fld (pv 0) rfl) (pe_fld (pv 0) rfl) (by rfl)) (pe_fld (pv 0) rfl) (pe_ix ix_list (pe_fld (pv 0) rfl) (pe_op op_sub (pe_callB call_len_seq (by rfl) T.len PySem.boot_len (pa_cons (pe_fld (pv 0) rfl) pa_nil)) pe_int) (fun _ _ => rfl))))), ?_⟩
  obtain ⟨_, G, M, n, x, rfl, tr, hx, hne, k⟩ := h
  repeat walk_at "ub1"
  refine rdS_visited T tr hx ?_
  repeat walk_at "ub1"
  refine rdS_children T tr hx fun ka h1 _ => ?_
  refine ⟨ka, _, rfl, .inl (SqL.of h1), rfl, flat_vInts _, ?_⟩
  rw [if_neg Bool.false_ne_true]
  refine ⟨_, rfl, ?_⟩
  rw [inV_vInts]
  have last : x.preferred = x.children.getLastD 0 → (tOp (rIxL K) (tFld K (tVar 0) "children") (tOp (rI0 fun i j => .int (i - j)) (tCB (fun xs H Q => ∃ p ys, xs = [V.ref p] ∧ (SqL K H p ys ∨ SqT K H p ys) ∧ Q (.int ys.length) H) (tCons (tFld K (tVar 0) "children") tNil)) (tC (.int 1)))) (start ["self"] [V.ref (G.ad n)]) H Q := by
    intro e
    repeat walk_at "ub1"
    refine rdS_children T tr hx fun k1 h1 _ => ?_
    repeat walk_at "ub1"
    refine rdS_children T tr hx fun k2 h2 _ => ?_
    repeat walk_at "ub1"
    refine ⟨k2, _, rfl, .inl (SqL.of h2), ?_⟩
    repeat walk_at "ub1"
    have hl : 0 < x.children.length := List.length_pos_iff.mpr hne
    refine ⟨k1, _, _, iV x.preferred, rfl, rfl, SqL.of h1, at_of (j := x.children.length - 1) (by rw [vInts_len]; omega) ?_, k⟩
    unfold vInts
    rw [List.getElem?_map, e, List.getLastD_eq_getLast?, List.getLast?_eq_getElem?, List.getElem?_eq_getElem (by omega)]
    rfl
  cases hv : x.visited with
  | none =>
    refine iteF (last ?_)
    unfold Nd.preferred
    rw [hv]
  | some v =>
    refine ite_b (fun h => ?_) (fun h => last ?_)
    · repeat walk_at "ub1"
      refine rdS_visited T tr hx ?_
      have e : x.preferred = v := by
        unfold Nd.preferred
        rw [hv]
        exact if_pos h
      rw [hv]
      rw [e] at k
      exact k
    · unfold Nd.preferred
      rw [hv]
      have h' : x.children.contains v = false := h
      exact if_neg (by rw [h']; exact Bool.false_ne_true)
end
/-! ### ways and paths -/
section
variable {P : Program} {w : World} {K : PySem.W.Frag} {mg : Str → Option Value} {base : Heap} {C : Cl}
def Sm (M : Tr) : Prop := M.coming ≤ 200
theorem way_small {M : Tr} (W : WF M) (sm : Sm M) {n : Nat} {x : Nd} (h : M.find n = some x) : (wayTo M n).length ≤ 1000 := by
  have h1 := way_len W n x h
  have h2 := find_lt W h
  have h3 : M.coming ≤ 200 := sm
  omega
theorem while_ne {K : PySem.W.Frag} {i j : Nat} {f : Str} (σ : L2.St) (H : Hp) (Q Q' : Bool → Hp → Prop) (m : ∀ b H1, Q b H1 → Q' b H1) (h : (tTest (tOp rNe (tVar i) (tFld K (tVar j) f))) σ H Q) : (tTest (tOp rNe (tVar i) (tFld K (tVar j) f))) σ H Q' := by
  obtain ⟨v, e, v0, e0, a, C, dx, fs, u, r1, r2, r3, r4, r5, sc, k, hk, q⟩ := h
  exact ⟨v, e, v0, e0, a, C, dx, fs, u, r1, r2, r3, r4, r5, sc, k, hk, m _ _ q⟩
def slot1 (σ : L2.St) : Nat := match σ with
  | _ :: some (.int i) :: _ => i.toNat
  | _ => 0
theorem up_len {M : Tr} {n : Nat} : (up n M n).length = (wayTo M n).length := by
  unfold wayTo
  rw [List.length_reverse]
def sp_Tree_way_to (_K : PySem.W.Frag) (C : Cl) : Sp := fun vs H Q _ => vs.length = 2 ∧ ∃ (G : Gh) (M : Tr) (n : Nat) (x : Nd), vs = [.ref G.t, iV n] ∧ TreeAt C G H M ∧ WF M ∧ Sm M ∧ M.find n = some x ∧
  ∀ H' p, Same H H' → H p = none → H' p = some (.lst (vInts (wayTo M n))) → Q (.ref p) H'
abbrev s_Tree_way_to : Stmt := inClass (topS 32) 6
theorem sc_Tree_way_to : FnScope ["self", "number", "found"] ["self", "number"] (defScope s_Tree_way_to) := ⟨rfl, rfl, rfl, by decide +kernel, rfl, by decide +kernel, by decide +kernel⟩
theorem b_Tree_way_to : Bind "way_to" "Tree.way_to" s_Tree_way_to ["self", "number"] := fun _ _ _ _ _ _ us hl => match us, hl with | [_, _], _ => rfl
theorem ok_Tree_way_to (T : Txt K mg C) (D : DefM K C.tr "way_to" "Tree.way_to" s_Tree_way_to) : CalM P w K mg base 1 C.tr "way_to" ["self", "number"] (sp_Tree_way_to K C) := by
  refine D.cal b_Tree_way_to fun f fd F => F.ok sc_Tree_way_to (fun vs H Q E h => h.1) (fun cdv A outer s H vs Q E hr h => ?_)
  have hu := hu_of hr
  refine ⟨_, (pss_cons (ps_set (i := 2) sc_Tree_way_to.nd rfl (Or.inl rfl) (pe_lst (pa_cons (pv 1) pa_nil)))
        (pss_cons (ps_while PassesOwn.never (pt_cmpR op_ne (pv 1) (pe_fld (pv 0) rfl) (nomark _)) (pss_cons (ps_set (i := 1) sc_Tree_way_to.nd rfl (Or.inl rfl) (pe_fld (pe_dget hu (pe_fld (pv 0) rfl) (pv 1) (fun _ _ => rfl)) rfl))
        (pss_one (ps_expr (pe_bm PySem.F.plainAttrs_list PySem.F.slot_list_append PySem.F.type_list_append mt_append (pv 2) (pa_cons (pv 1) pa_nil))))))
        (pss_one (ps_ret (pe_revL (pv 2)))))), ?_⟩
  obtain ⟨_, G, M, n, x, rfl, tr, W, sm, hx, k⟩ := h
  repeat walk_at "ub1"
  refine ⟨by show 1 ≤ sizeLine; decide, fun p hp => ?_⟩
  have s1 := Same.new (o := .lst [iV n]) hp
  repeat walk_at "ub1"
  refine while_by (fun σ H' => ∃ (j : Nat) (pre : List Nat), σ = [some (.ref G.t), some (iV j), some (.ref p)] ∧ Same H H' ∧ H' p = some (.lst (vInts (pre ++ [j]))) ∧ (∃ y, M.find j = some y) ∧ pre ++ up j M j = up n M n) (fun σ _ => slot1 σ)
    ⟨n, [], rfl, s1, upd_same, ⟨x, hx⟩, rfl⟩ ?_ while_ne
  rintro σ H' ⟨j, pre, rfl, s, hl, ⟨y, hy⟩, e⟩
  have tr' := tr.same s
  repeat walk_at "ub1"
  refine rdT_root T tr' ?_
  repeat walk_at "ub1"
  refine ite_ndec (fun ne => ?_) (fun eq => ?_)
  · have nr : j ≠ M.root := fun z => ne (by rw [z])
    obtain ⟨m, ey⟩ := mem_of_find hy
    obtain ⟨q, z, hq, lq, hz, _⟩ := W.up y m (by rw [ey]; exact nr)
    repeat walk_at "ub1"
    refine rdT_states T tr' ?_
    repeat walk_at "ub1"
    refine atT tr' hy ?_
    refine rdS_parent T tr' hy ?_
    rw [hq]
    repeat walk_at "ub1"
    refine ⟨.inl ⟨rfl, _, SqL.of hl⟩, ?_⟩
    repeat walk_at "ub1"
    rw [up_step W hy nr hq] at e
    have hlen : (pre ++ [j]).length ≤ 1000 := by
      have h1 := way_small W sm hx
      rw [← up_len, ← e] at h1
      simp at h1 ⊢
      omega
    refine ⟨p, _, iV q, rfl, rfl, hl, bigl (by rw [vInts_len]; omega), ⟨⟨q, pre ++ [j], rfl, fun b o hb => ?_, ?_, ⟨z, hz⟩, ?_⟩, ?_⟩⟩
    · rw [upd_ne (ne_of_none hb hp)]
      exact s b o hb
    · rw [upd_same, vInts_app (pre ++ [j])]
      rfl
    · rw [← e, List.append_assoc]
      rfl
    · show ((q : Int)).toNat < ((j : Int)).toNat
      omega
  · have er : j = M.root := by omega
    subst er
    rw [up_root] at e
    repeat walk_at "ub1"
    refine ⟨p, _, rfl, SqL.of hl, fun p2 n2 => ?_⟩
    refine k _ _ (s.trans (Same.new n2)) (s.free n2) ?_
    rw [upd_same, e]
    unfold wayTo vInts
    rw [List.map_reverse]
theorem for_zipM {K : PySem.W.Frag} {a b : Addr} {xs ys : List V} {g : TG} {tb : TS} {D : Ends} {σ : L2.St} {H : Hp} (Pv : Nat → L2.St → Hp → Prop) (h0 : Pv 0 σ H) (hq : ∀ i σ H, Pv i σ H → SqL K H a xs ∧ SqL K H b ys)
    (hs : ∀ (i : Nat) (x y : V) (T : Addr) (σ : L2.St) (H : Hp), xs[i]? = some x → ys[i]? = some y → Pv i σ H → H T = none → g (.ref T) σ (upd H T (.tup [x, y])) fun σ2 H2 => tb { D with nx := Pv (i + 1), ct := Pv (i + 1), bk := D.nx } σ2 H2) (hd : ∀ σ H, Pv (min xs.length ys.length) σ H → D.nx σ H) :
    ∃ W : Nat → Nat → L2.St → Hp → Prop, (∃ m, W 0 m σ H) ∧ ∀ i m σ H, W i m σ H →
      ((Itz K a b).stop i H ∧ D.nx σ H) ∨ ((Itz K a b).go i H ∧ ∃ N : L2.St → Hp → Prop, (∀ σ' H', N σ' H' → ∃ m', m' < m ∧ W (i + 1) m' σ' H') ∧ ∀ v H', (Itz K a b).yld i H v H' → g v σ H' fun σ2 H2 => tb { D with nx := N, ct := N, bk := D.nx } σ2 H2) := by
  refine ⟨fun i m σ H => m = min xs.length ys.length - i ∧ i ≤ min xs.length ys.length ∧ Pv i σ H, ⟨min xs.length ys.length, rfl, Nat.zero_le _, h0⟩, ?_⟩
  rintro i m σ H ⟨rfl, hi, p⟩
  obtain ⟨qx, qy⟩ := hq i σ H p
  by_cases hlt : i < min xs.length ys.length
  · have hx : xs[i]? = some xs[i] := List.getElem?_eq_getElem (by omega)
    have hy : ys[i]? = some ys[i] := List.getElem?_eq_getElem (by omega)
    refine .inr ⟨⟨xs, ys, _, _, qx, qy, hx, hy⟩, Pv (i + 1), fun σ' H' p' => ⟨min xs.length ys.length - (i + 1), by omega, rfl, hlt, p'⟩, fun v H' y => ?_⟩
    obtain ⟨T, x', y', rfl, hT, rfl, f1, f2⟩ := y
    exact hs i x' y' T σ H (f1 xs qx) (f2 ys qy) p hT
  · have e : i = min xs.length ys.length := by omega
    subst e
    exact .inl ⟨⟨xs, ys, qx, qy, by omega⟩, hd σ H p⟩
theorem shared_drop : ∀ (i : Nat) (l m : List Nat), l.take i = m.take i → i ≤ l.length → i ≤ m.length → shared l m = i + shared (l.drop i) (m.drop i)
  | 0, l, m, _, _, _ => by simp
  | i + 1, [], _, _, h, _ => by simp at h
  | i + 1, _ :: _, [], _, _, h => by simp at h
  | i + 1, a :: l, b :: m, e, h1, h2 => by
    rw [List.take_succ_cons, List.take_succ_cons] at e
    injection e with e1 e2
    subst e1
    have ih := shared_drop i l m e2 (by simpa using h1) (by simpa using h2)
    show (if a = a then shared l m + 1 else 0) = _
    rw [if_pos rfl, ih, List.drop_succ_cons, List.drop_succ_cons]
    omega
theorem shared_ne {l m : List Nat} {i x y : Nat} (e : l.take i = m.take i) (hx : l[i]? = some x) (hy : m[i]? = some y) (ne : x ≠ y) : shared l m = i := by
  obtain ⟨h1, e1⟩ := List.getElem?_eq_some_iff.mp hx
  obtain ⟨h2, e2⟩ := List.getElem?_eq_some_iff.mp hy
  rw [shared_drop i l m e (by omega) (by omega), List.drop_eq_getElem_cons h1, List.drop_eq_getElem_cons h2]
  show i + (if l[i] = m[i] then _ else 0) = i
  rw [e1, e2, if_neg ne]
  rfl
theorem shared_nil {l m : List Nat} (h : l = [] ∨ m = []) : shared l m = 0 := by
  cases l with
  | nil => rfl
  | cons a l =>
    cases m with
    | nil => rfl
    | cons b m => simp at h
theorem shared_end {l m : List Nat} (e : l.take (min l.length m.length) = m.take (min l.length m.length)) : shared l m = min l.length m.length := by
  rw [shared_drop _ l m e (by omega) (by omega), shared_nil]
  · rfl
  · by_cases h : l.length ≤ m.length
    · left
      rw [Nat.min_eq_left h, List.drop_length]
    · right
      rw [Nat.min_eq_right (by omega), List.drop_length]
theorem shared_le : ∀ (l m : List Nat), shared l m ≤ l.length ∧ shared l m ≤ m.length
  | [], _ => ⟨Nat.zero_le _, Nat.zero_le _⟩
  | _ :: _, [] => ⟨Nat.zero_le _, Nat.zero_le _⟩
  | a :: l, b :: m => by
    have ih := shared_le l m
    show (if a = b then shared l m + 1 else 0) ≤ _ ∧ (if a = b then shared l m + 1 else 0) ≤ _
    simp only [List.length_cons]
    split <;> omega
def sp_shared (_K : PySem.W.Frag) (_C : Cl) : Sp := fun vs H Q _ => vs.length = 2 ∧ ∃ (a b : Addr) (l m : List Nat), vs = [.ref a, .ref b] ∧ H a = some (.lst (vInts l)) ∧ H b = some (.lst (vInts m)) ∧ ∀ H', Same H H' → Q (iV (shared l m)) H'
abbrev s_shared : Stmt := topS 33
theorem sc_shared : FnScope ["way", "other", "many", "one", "mate"] ["way", "other"] (defScope s_shared) := ⟨rfl, rfl, rfl, by decide +kernel, rfl, by decide +kernel, by decide +kernel⟩
theorem b_shared : Bind "shared" "shared" s_shared ["way", "other"] := fun _ _ _ _ _ _ us hl => match us, hl with | [_, _], _ => rfl
theorem ok_shared (T : Txt K mg C) (D : DefF K mg "shared" s_shared) : CalF P w K mg base 1 "shared" ["way", "other"] (sp_shared K C) := by
  refine D.cal b_shared fun f fd F => F.ok sc_shared (fun vs H Q E h => h.1) (fun cdv A outer s H vs Q E hr h => ?_)
  have hu := hu_of hr
  refine ⟨_, (pss_cons (ps_set (i := 2) sc_shared.nd rfl (Or.inl rfl) pe_int)
        (pss_cons (ps_for PassesOwn.never rfl (pi_zip (by rfl) T.zip (pa_cons (pv 0) (pa_cons (pv 1) pa_nil))) (pg_tup rfl (pgs_cons (pg_name (i := 3) sc_shared.nd rfl (Or.inl rfl)) (pgs_cons (pg_name (i := 4) sc_shared.nd rfl (Or.inl rfl)) pgs_nil))) (pss_cons (ps_if (pt_cmpR op_ne (pv 3) (pv 4) (nomark _)) (pss_one (ps_ret (pv 2))) pss_nil)
        (pss_one (ps_set (i := 2) sc_shared.nd rfl (Or.inl rfl) (pe_op op_add (pv 2) pe_int)))))
        (pss_one (ps_ret (pv 2))))), ?_⟩
  obtain ⟨_, a, b, l, m, rfl, ha, hb, k⟩ := h
  repeat walk_at "ub1"
  refine ⟨a, b, _, _, rfl, SqL.of ha, SqL.of hb, for_zipM (fun i σ H' => ∃ v3 v4, σ = [some (.ref a), some (.ref b), some (iV i), v3, v4] ∧ Same H H' ∧ l.take i = m.take i) ⟨none, none, rfl, .refl H, rfl⟩ (fun i σ H' ⟨_, _, _, s, _⟩ => ⟨SqL.of (s _ _ ha), SqL.of (s _ _ hb)⟩) ?_ ?_⟩
  · rintro i x y t σ H' hx hy ⟨v3, v4, rfl, s, e⟩ ht
    obtain ⟨n, hn, rfl⟩ := vInts_at hx
    obtain ⟨n', hn', rfl⟩ := vInts_at hy
    refine ⟨t, _, rfl, SqT.of upd_same, rfl, _, _, rfl, _, _, rfl, rfl, ?_⟩
    have s' := s.trans (Same.new (o := .tup [iV n, iV n']) ht)
    repeat walk_at "ub1"
    refine ite_ndec (fun ne => ?_) (fun eq => ?_)
    · repeat walk_at "ub1"
      have := k _ s'
      rw [shared_ne e hn hn' (by omega)] at this
      exact this
    · repeat walk_at "ub1"
      refine ⟨_, _, rfl, s', ?_⟩
      have : n = n' := by omega
      subst this
      rw [take_more hn, take_more hn', e]
  · rintro σ H' ⟨v3, v4, rfl, s, e⟩
    rw [vInts_len, vInts_len] at e ⊢
    repeat walk_at "ub1"
    have := k _ s
    rw [shared_end e] at this
    exact this
def sp_steps_of (_K : PySem.W.Frag) (C : Cl) : Sp := fun vs H Q _ => vs.length = 3 ∧ ∃ (G : Gh) (M : Tr) (a b : Nat) (x y : Nd), vs = [.ref G.t, iV a, iV b] ∧ TreeAt C G H M ∧ WF M ∧ Sm M ∧ M.find a = some x ∧ M.find b = some y ∧
  ∀ H' p, Same H H' → H p = none → H' p = some (.lst (vInts [stepsUp M a b, stepsDown M a b])) → Q (.ref p) H'
abbrev s_steps_of : Stmt := topS 35
theorem sc_steps_of : FnScope ["tree", "start", "goal", "way", "other", "many"] ["tree", "start", "goal"] (defScope s_steps_of) := ⟨rfl, rfl, rfl, by decide +kernel, rfl, by decide +kernel, by decide +kernel⟩
theorem b_steps_of : Bind "steps_of" "steps_of" s_steps_of ["tree", "start", "goal"] := fun _ _ _ _ _ _ us hl => match us, hl with | [_, _, _], _ => rfl
theorem ok_steps_of (T : Txt K mg C) (D : DefF K mg "steps_of" s_steps_of) (c_shared : CalF P w K mg base 1 "shared" ["way", "other"] (sp_shared K C)) (c_Tree_way_to : CalM P w K mg base 1 C.tr "way_to" ["self", "number"] (sp_Tree_way_to K C)) : CalF P w K mg base 2 "steps_of" ["tree", "start", "goal"] (sp_steps_of K C) := by
  refine D.cal b_steps_of fun f fd F => F.ok sc_steps_of (fun vs H Q E h => h.1) (fun cdv A outer s H vs Q E hr h => ?_)
  have hu := hu_of hr
  refine ⟨_, (pss_cons (ps_par (i := 3) (j := 4) rfl sc_steps_of.nd rfl rfl (by decide) rfl rfl (pa_cons (pm c_Tree_way_to T.cTr hr (by decide) (pv 0) (pa_cons (pv 1) pa_nil)) (pa_cons (pm c_Tree_way_to T.cTr hr (by decide) (pv 0) (pa_cons (pv 2) pa_nil)) pa_nil)) (by rfl))
        (pss_cons (ps_set (i := 5) sc_steps_of.nd rfl (Or.inl rfl) (pf c_shared hr (by decide) (by rfl) (pa_cons (pv 3) (pa_cons (pv 4) pa_nil))))
        (pss_one (ps_ret (pe_lst (pa_cons (pe_op op_sub (pe_callB call_len_seq (by rfl) T.len PySem.boot_len (pa_cons (pv 3) pa_nil)) (pv 5)) (pa_cons (pe_op op_sub (pe_callB call_len_seq (by rfl) T.len PySem.boot_len (pa_cons (pv 4) pa_nil)) (pv 5)) pa_nil))))))), ?_⟩
  obtain ⟨_, G, M, a, b, x, y, rfl, tr, W, sm, hx, hy, k⟩ := h
  repeat walk_at "ub1"
  refine mtT tr ?_
  repeat walk_at "ub1"
  refine ⟨rfl, G, M, a, x, rfl, tr, W, sm, hx, fun H1 p1 s1 n1 e1 => ?_⟩
  repeat walk_at "ub1"
  refine mtT (tr.same s1) ?_
  repeat walk_at "ub1"
  refine ⟨rfl, G, M, b, y, rfl, tr.same s1, W, sm, hy, fun H2 p2 s2 n2 e2 => ?_⟩
  repeat walk_at "ub1"
  refine ⟨_, _, rfl, ?_⟩
  repeat walk_at "ub1"
  refine ⟨rfl, p1, p2, _, _, rfl, s2 _ _ e1, e2, fun H3 s3 => ?_⟩
  repeat walk_at "ub1"
  refine ⟨p1, _, rfl, .inl (SqL.of (s3 _ _ (s2 _ _ e1))), ?_⟩
  repeat walk_at "ub1"
  refine ⟨p2, _, rfl, .inl (SqL.of (s3 _ _ e2)), ?_⟩
  repeat walk_at "ub1"
  have hs := shared_le (wayTo M a) (wayTo M b)
  refine ⟨by show 2 ≤ sizeLine; decide, fun p hp => ?_⟩
  have s := (s1.trans s2).trans s3
  refine k _ _ (s.trans (Same.new hp)) (s.free hp) ?_
  rw [upd_same, vInts_len, vInts_len]
  unfold stepsUp stepsDown
  have q1 : ((wayTo M a).length : Int) - (shared (wayTo M a) (wayTo M b) : Nat) = (((wayTo M a).length - shared (wayTo M a) (wayTo M b) : Nat) : Int) := by omega
  have q2 : ((wayTo M b).length : Int) - (shared (wayTo M a) (wayTo M b) : Nat) = (((wayTo M b).length - shared (wayTo M a) (wayTo M b) : Nat) : Int) := by omega
  rw [q1, q2]
  rfl
theorem shared_pos {M : Tr} (W : WF M) {a b : Nat} {x y : Nd} (hx : M.find a = some x) (hy : M.find b = some y) : 1 ≤ shared (wayTo M a) (wayTo M b) := by
  obtain ⟨l, e1⟩ := way_head W a x hx
  obtain ⟨m, e2⟩ := way_head W b y hy
  rw [e1, e2]
  show 1 ≤ if M.root = M.root then shared l m + 1 else 0
  rw [if_pos rfl]
  omega
def sp_path_of (_K : PySem.W.Frag) (C : Cl) : Sp := fun vs H Q _ => vs.length = 3 ∧ ∃ (G : Gh) (M : Tr) (a b : Nat) (x y : Nd), vs = [.ref G.t, iV a, iV b] ∧ TreeAt C G H M ∧ WF M ∧ Sm M ∧ M.find a = some x ∧ M.find b = some y ∧
  ∀ H' p, Same H H' → H p = none → H' p = some (.lst (vInts (pathOf M a b))) → Q (.ref p) H'
abbrev s_path_of : Stmt := topS 34
theorem sc_path_of : FnScope ["tree", "start", "goal", "way", "other", "many"] ["tree", "start", "goal"] (defScope s_path_of) := ⟨rfl, rfl, rfl, by decide +kernel, rfl, by decide +kernel, by decide +kernel⟩
theorem b_path_of : Bind "path_of" "path_of" s_path_of ["tree", "start", "goal"] := fun _ _ _ _ _ _ us hl => match us, hl with | [_, _, _], _ => rfl
theorem ok_path_of (T : Txt K mg C) (D : DefF K mg "path_of" s_path_of) (c_shared : CalF P w K mg base 1 "shared" ["way", "other"] (sp_shared K C)) (c_Tree_way_to : CalM P w K mg base 1 C.tr "way_to" ["self", "number"] (sp_Tree_way_to K C)) : CalF P w K mg base 2 "path_of" ["tree", "start", "goal"] (sp_path_of K C) := by
  refine D.cal b_path_of fun f fd F => F.ok sc_path_of (fun vs H Q E h => h.1) (fun cdv A outer s H vs Q E hr h => ?_)
  have hu := hu_of hr
  refine ⟨_, (pss_cons (ps_par (i := 3) (j := 4) rfl sc_path_of.nd rfl rfl (by decide) rfl rfl (pa_cons (pm c_Tree_way_to T.cTr hr (by decide) (pv 0) (pa_cons (pv 1) pa_nil)) (pa_cons (pm c_Tree_way_to T.cTr hr (by decide) (pv 0) (pa_cons (pv 2) pa_nil)) pa_nil)) (by rfl))
        (pss_cons (ps_set (i := 5) sc_path_of.nd rfl (Or.inl rfl) (pf c_shared hr (by decide) (by rfl) (pa_cons (pv 3) (pa_cons (pv 4) pa_nil))))
        (pss_one (ps_ret (pe_op op_cat (pe_revL (pe_slice sl_list (pv 3) (po_some (pe_op op_sub (pv 5) pe_int)) po_none)) (pe_slice sl_list (pv 4) (po_some (pv 5)) po_none)))))), ?_⟩
  obtain ⟨_, G, M, a, b, x, y, rfl, tr, W, sm, hx, hy, k⟩ := h
  repeat walk_at "ub1"
  refine mtT tr ?_
  repeat walk_at "ub1"
  refine ⟨rfl, G, M, a, x, rfl, tr, W, sm, hx, fun H1 p1 s1 n1 e1 => ?_⟩
  repeat walk_at "ub1"
  refine mtT (tr.same s1) ?_
  repeat walk_at "ub1"
  refine ⟨rfl, G, M, b, y, rfl, tr.same s1, W, sm, hy, fun H2 p2 s2 n2 e2 => ?_⟩
  repeat walk_at "ub1"
  refine ⟨_, _, rfl, ?_⟩
  repeat walk_at "ub1"
  refine ⟨rfl, p1, p2, _, _, rfl, s2 _ _ e1, e2, fun H3 s3 => ?_⟩
  have e1' := s3 _ _ (s2 _ _ e1)
  have e2' := s3 _ _ e2
  have hp := shared_pos W hx hy
  have l1 := way_small W sm hx
  have l2 := way_small W sm hy
  repeat walk_at "ub1"
  refine ⟨p1, _, rfl, SqL.of e1', fun p4 n4 => ?_⟩
  have q1 : (shared (wayTo M a) (wayTo M b) : Int) - 1 = ((shared (wayTo M a) (wayTo M b) - 1 : Nat) : Int) := by omega
  rw [q1, cutV_from]
  have s4 := Same.new (o := .lst (List.drop (shared (wayTo M a) (wayTo M b) - 1) (vInts (wayTo M a)))) n4
  refine ⟨p4, _, rfl, SqL.of upd_same, fun p5 n5 => ?_⟩
  have s5 := s4.trans (Same.new (o := .lst (List.drop (shared (wayTo M a) (wayTo M b) - 1) (vInts (wayTo M a))).reverse) n5)
  repeat walk_at "ub1"
  refine ⟨p2, _, rfl, SqL.of (s5 _ _ e2'), fun p6 n6 => ?_⟩
  rw [cutV_from]
  refine ⟨p5, p6, _, _, rfl, rfl, Eq.trans (upd_ne (ne_of_none upd_same n6)) upd_same, upd_same, big (by simp [vInts_len]; omega), fun p7 n7 => ?_⟩
  have s := (((s1.trans s2).trans s3).trans s5).trans (Same.new (o := .lst (List.drop (shared (wayTo M a) (wayTo M b)) (vInts (wayTo M b)))) n6)
  refine k _ _ (s.trans (Same.new n7)) (s.free n7) ?_
  rw [upd_same]
  unfold pathOf vInts
  rw [List.map_append, List.map_reverse, List.map_drop, List.map_drop]
end
/-! ### what changes the tree in the heap -/
section
variable {P : Program} {w : World} {K : PySem.W.Frag} {mg : Str → Option Value} {base : Heap} {C : Cl} {G : Gh} {H : Hp} {M : Tr} {n : Nat} {x : Nd}
def Inc (M : Tr) : Prop := M.nodes.Pairwise fun x y => x.number < y.number
theorem Inc.uniq (I : Inc M) {y : Nd} (hx : M.find n = some x) (hy : y ∈ M.nodes) (e : y.number = n) : y = x := by
  have h1 := find_of_mem I hy
  rw [e] at h1
  exact Option.some.inj (h1.symm.trans hx)
theorem Inc.upd {f : Nd → Nd} (I : Inc M) (hf : Numb f) (k : Nat) : Inc (M.upd k f) := inc_upd hf I
theorem ne_lab {a b : Addr} (h : G.L a ≠ G.L b) : a ≠ b := fun e => h (congrArg G.L e)
theorem kvs_upd {f : Nd → Nd} (hf : Numb f) (k : Nat) (ad : Nat → Addr) : kvs (M.upd k f) ad = kvs M ad := by
  unfold kvs Tr.upd
  rw [List.map_map]
  refine List.map_congr_left fun y _ => ?_
  show ((Sum.inl ((if y.number = k then f y else y).number : Int) : Key), V.ref (ad (if y.number = k then f y else y).number)) = _
  rw [ite_numb hf]
/-- one state has changed, its lists or itself, by objects of its own -/
theorem TreeAt.setSt {H' : Hp} {f : Nd → Nd} (tr : TreeAt C G H M) (I : Inc M) (hf : Numb f) (hx : M.find n = some x) (h : StAt C G H' (f x))
    (ho : ∀ b o, H b = some o → G.L b ≠ some (.st n) → G.L b ≠ some (.ch n) → H' b = some o) (hl : ∀ b, H' b = none → G.L b = none) : TreeAt C G H' (M.upd n f) where
  obj := by
    obtain ⟨dx, e⟩ := tr.obj
    exact ⟨dx, ho _ _ e (by rw [tr.lt]; simp) (by rw [tr.lt]; simp)⟩
  lt := tr.lt
  dict := by
    rw [kvs_upd hf]
    exact ho _ _ tr.dict (by rw [tr.ld]; simp) (by rw [tr.ld]; simp)
  ld := tr.ld
  sts := by
    intro y' hy'
    obtain ⟨y, hy, rfl⟩ := mem_upd hy'
    by_cases e : y.number = n
    · rw [if_pos e, I.uniq hx hy e]
      exact h
    · rw [if_neg e]
      obtain ⟨dx, ca, ta, ka, as, a1, a2, ⟨a3, a4, a5⟩, a6, a7, a8⟩ := (tr.sts y hy).ex
      have f0 : Frm G H G H' := fun b o hb l => ⟨ho b o hb (by rw [l]; simp) (by rw [l]; simp), l⟩
      exact ⟨dx, ca, ta, ka, as, ho _ _ a1 (by rw [a2]; simp [e]) (by rw [a2]; simp), a2, ⟨(f0 _ _ a3 a4).1, a4, a5.frm f0⟩, a6.frm f0, ho _ _ a7 (by rw [a8]; simp) (by rw [a8]; simp [e]), a8⟩
  lok := hl
theorem upd_none {p b : Addr} {o : HO} (h : upd H p o b = none) : H b = none := by
  by_cases e : b = p
  · rw [e, upd_same] at h
    cases h
  · rwa [upd_ne e] at h
/-- a plain field of a state is stored -/
theorem stS (T : Txt K mg C) {f : Nd → Nd} {fn : Str} {v : V} {Nx : Hp → Prop} (na : NoAttr K C.st fn) (tr : TreeAt C G H M) (I : Inc M) (hx : M.find n = some x) (hf : Numb f)
    (hs : (f x).changes = x.changes ∧ (f x).text = x.text ∧ (f x).children = x.children) (hput : ∀ ca ta ka, putF fn v (stF x ca ta ka) = stF (f x) ca ta ka)
    (q : ∀ H', TreeAt C G H' (M.upd n f) → FrT G H H' → Nx H') : StR K fn v (.ref (G.ad n)) H Nx := by
  obtain ⟨s, e⟩ := tr.st hx
  obtain ⟨dx, ca, ta, ka, as, a1, a2, ⟨a3, a4, a5⟩, a6, a7, a8⟩ := s.ex
  rw [e] at a1 a2 a8
  refine i_st a1 T.cSt na (by show 8 < 1000; decide) ?_
  have ho : ∀ b o, H b = some o → G.L b ≠ some (.st n) → upd H (G.ad n) (.ins C.st dx (putF fn v (stF x ca ta ka))) b = some o := fun b o hb l => by
    rw [upd_ne (ne_lab (by rw [a2]; exact l))]
    exact hb
  refine q _ (tr.setSt I hf hx ?_ (fun b o hb l _ => ho b o hb l) fun b hb => tr.lok b (upd_none hb)) fun b o hb l => ho b o hb fun z => by rw [z] at l; cases l
  have en : (f x).number = n := by rw [hf, e]
  have f0 : Frm G H G (upd H (G.ad n) (.ins C.st dx (putF fn v (stF x ca ta ka)))) := fun b o hb l => ⟨ho b o hb (by rw [l]; simp), l⟩
  refine ⟨dx, ca, ta, ka, as, ?_, ?_, ⟨(f0 _ _ a3 a4).1, a4, ?_⟩, ?_, ?_, ?_⟩
  · rw [en, upd_same, hput]
  · rw [en]
    exact a2
  · rw [hs.1]
    exact a5.frm f0
  · rw [hs.2.1]
    exact a6.frm f0
  · rw [hs.2.2]
    exact ho _ _ a7 (by rw [a8]; simp)
  · rw [en]
    exact a8
/-- its changes are stored anew, none -/
theorem stS_changes (T : Txt K mg C) {f : Nd → Nd} {cz : Addr} {Nx : Hp → Prop} (tr : TreeAt C G H M) (I : Inc M) (hx : M.find n = some x) (hf : Numb f)
    (hs : (f x).changes = [] ∧ (f x).text = x.text ∧ (f x).children = x.children) (hput : ∀ ca ta ka cz, putF "changes" (.ref cz) (stF x ca ta ka) = stF (f x) cz ta ka) (hz : H cz = some (.lst [])) (lz : G.L cz = none)
    (q : ∀ H', TreeAt C G H' (M.upd n f) → FrT G H H' → Nx H') : StR K "changes" (.ref cz) (.ref (G.ad n)) H Nx := by
  obtain ⟨s, e⟩ := tr.st hx
  obtain ⟨dx, ca, ta, ka, as, a1, a2, ⟨a3, a4, a5⟩, a6, a7, a8⟩ := s.ex
  rw [e] at a1 a2 a8
  refine i_st a1 T.cSt T.nChanges (by show 8 < 1000; decide) ?_
  have ho : ∀ b o, H b = some o → G.L b ≠ some (.st n) → upd H (G.ad n) (.ins C.st dx (putF "changes" (.ref cz) (stF x ca ta ka))) b = some o := fun b o hb l => by
    rw [upd_ne (ne_lab (by rw [a2]; exact l))]
    exact hb
  refine q _ (tr.setSt I hf hx ?_ (fun b o hb l _ => ho b o hb l) fun b hb => tr.lok b (upd_none hb)) fun b o hb l => ho b o hb fun z => by rw [z] at l; cases l
  have en : (f x).number = n := by rw [hf, e]
  have f0 : Frm G H G (upd H (G.ad n) (.ins C.st dx (putF "changes" (.ref cz) (stF x ca ta ka)))) := fun b o hb l => ⟨ho b o hb (by rw [l]; simp), l⟩
  refine ⟨dx, cz, ta, ka, [], ?_, ?_, ⟨ho _ _ hz (by rw [lz]; simp), lz, ?_⟩, ?_, ?_, ?_⟩
  · rw [en, upd_same, hput]
  · rw [en]
    exact a2
  · rw [hs.1]
    exact .nil
  · rw [hs.2.1]
    exact a6.frm f0
  · rw [hs.2.2]
    exact ho _ _ a7 (by rw [a8]; simp)
  · rw [en]
    exact a8
/-- its list of children is another -/
theorem TreeAt.kids {f : Nd → Nd} {ka : Addr} {l : List Nat} (tr : TreeAt C G H M) (I : Inc M) (hx : M.find n = some x) (hf : Numb f) (hs : ∀ ca ta ka, stF (f x) ca ta ka = stF x ca ta ka) (hs2 : (f x).changes = x.changes ∧ (f x).text = x.text) (hl : (f x).children = l)
    (hk : H ka = some (.lst (vInts x.children))) (hL : G.L ka = some (.ch n)) (hfld : ∃ dx ca ta, H (G.ad n) = some (.ins C.st dx (stF x ca ta ka))) : TreeAt C G (upd H ka (.lst (vInts l))) (M.upd n f) ∧ FrT G H (upd H ka (.lst (vInts l))) := by
  obtain ⟨s, e⟩ := tr.st hx
  obtain ⟨dx, ca, ta, ka', as, a1, a2, ⟨a3, a4, a5⟩, a6, a7, a8⟩ := s.ex
  rw [e] at a1 a2 a8
  obtain ⟨dx', ca', ta', e1⟩ := hfld
  have ek : ka' = ka := by
    rw [a1] at e1
    injection e1 with e1
    injection e1 with _ _ e3
    unfold stF at e3
    simp at e3
    exact e3.2.2
  subst ek
  have ho : ∀ b o, H b = some o → G.L b ≠ some (.ch n) → upd H ka' (.lst (vInts l)) b = some o := fun b o hb z => by
    rw [upd_ne (ne_lab (by rw [a8]; exact z))]
    exact hb
  have en : (f x).number = n := by rw [hf, e]
  have f0 : Frm G H G (upd H ka' (.lst (vInts l))) := fun b o hb l => ⟨ho b o hb (by rw [l]; simp), l⟩
  refine ⟨tr.setSt I hf hx ⟨dx, ca, ta, ka', as, ?_, ?_, ⟨(f0 _ _ a3 a4).1, a4, ?_⟩, ?_, ?_, ?_⟩ (fun b o hb _ l => ho b o hb l) fun b hb => tr.lok b (upd_none hb), fun b o hb z => ho b o hb fun y => by rw [y] at z; cases z⟩
  · rw [en, hs]
    exact ho _ _ a1 (by rw [a2]; simp)
  · rw [en]
    exact a2
  · rw [hs2.1]
    exact a5.frm f0
  · rw [hs2.2]
    exact a6.frm f0
  · rw [hl, upd_same]
  · rw [en]
    exact a8
/-- the object of a state, with its list of children -/
theorem rdS_kids (T : Txt K mg C) {Q : VK} (h : TreeAt C G H M) (hx : M.find n = some x) (q : ∀ ka, H ka = some (.lst (vInts x.children)) → G.L ka = some (.ch n) → (∃ dx ca ta, H (G.ad n) = some (.ins C.st dx (stF x ca ta ka))) → Q (.ref ka) H) : FldR K "children" (.ref (G.ad n)) H Q := by
  obtain ⟨s, rfl⟩ := h.st hx
  obtain ⟨dx, ca, ta, ka, as, e, _, _, _, k1, k2⟩ := s.ex
  exact i_rd e T.cSt T.nChildren rfl (q ka k1 k2 ⟨dx, ca, ta, e⟩)
/-- a field of the tree is stored -/
theorem stT (T : Txt K mg C) {M' : Tr} {fn : Str} {v : V} {Nx : Hp → Prop} (na : NoAttr K C.tr fn) (tr : TreeAt C G H M) (hn : M'.nodes = M.nodes) (hput : ∀ d, putF fn v (trF M d) = trF M' d)
    (q : ∀ H', TreeAt C G H' M' → FrT G H H' → Nx H') : StR K fn v (.ref G.t) H Nx := by
  obtain ⟨dx, e⟩ := tr.obj
  refine i_st e T.cTr na (by show 4 < 1000; decide) ?_
  have ho : ∀ b o, H b = some o → G.L b ≠ some .tree → upd H G.t (.ins C.tr dx (putF fn v (trF M G.d))) b = some o := fun b o hb z => by
    rw [upd_ne (ne_lab (by rw [tr.lt]; exact z))]
    exact hb
  have f0 : Frm G H G (upd H G.t (.ins C.tr dx (putF fn v (trF M G.d)))) := fun b o hb l => ⟨ho b o hb (by rw [l]; simp), l⟩
  refine q _ ⟨⟨dx, by rw [upd_same, hput]⟩, tr.lt, ?_, tr.ld, fun y hy => ?_, fun b hb => tr.lok b (upd_none hb)⟩ fun b o hb z => ho b o hb fun y => by rw [y] at z; cases z
  · have ek : kvs M' G.ad = kvs M G.ad := by
      unfold kvs
      rw [hn]
    rw [ek]
    exact ho _ _ tr.dict (by rw [tr.ld]; simp)
  · rw [hn] at hy
    obtain ⟨dx, ca, ta, ka, as, a1, a2, ⟨a3, a4, a5⟩, a6, a7, a8⟩ := (tr.sts y hy).ex
    exact ⟨dx, ca, ta, ka, as, ho _ _ a1 (by rw [a2]; simp), a2, ⟨(f0 _ _ a3 a4).1, a4, a5.frm f0⟩, a6.frm f0, ho _ _ a7 (by rw [a8]; simp), a8⟩
/-- a state is taken out of the dict -/
theorem dropK_kvs (M : Tr) (ad : Nat → Addr) (n : Nat) : dropK (kvs M ad) (Sum.inl (n : Int)) = kvs { M with nodes := M.nodes.filter fun y => y.number != n } ad := by
  unfold dropK kvs
  rw [List.filter_map]
  have e : ((fun kv : Key × V => decide (kv.1 ≠ (Sum.inl (n : Int) : Key))) ∘ fun x : Nd => ((Sum.inl (x.number : Int) : Key), V.ref (ad x.number))) = fun y : Nd => y.number != n := by
    funext y
    show decide ((Sum.inl (y.number : Int) : Key) ≠ Sum.inl (n : Int)) = (y.number != n)
    rw [Bool.eq_iff_iff]
    simp
    omega
  rw [e]
theorem TreeAt.pop (tr : TreeAt C G H M) : TreeAt C G (upd H G.d (.dK (dropK (kvs M G.ad) (Sum.inl (n : Int))))) { M with nodes := M.nodes.filter fun y => y.number != n } ∧ FrT G H (upd H G.d (.dK (dropK (kvs M G.ad) (Sum.inl (n : Int))))) := by
  have ho : ∀ b o, H b = some o → G.L b ≠ some .dict → upd H G.d (.dK (dropK (kvs M G.ad) (Sum.inl (n : Int)))) b = some o := fun b o hb z => by
    rw [upd_ne (ne_lab (by rw [tr.ld]; exact z))]
    exact hb
  have f0 : Frm G H G (upd H G.d (.dK (dropK (kvs M G.ad) (Sum.inl (n : Int))))) := fun b o hb l => ⟨ho b o hb (by rw [l]; simp), l⟩
  refine ⟨⟨?_, tr.lt, by rw [upd_same, dropK_kvs], tr.ld, fun y hy => ?_, fun b hb => tr.lok b (upd_none hb)⟩, fun b o hb z => ho b o hb fun y => by rw [y] at z; cases z⟩
  · obtain ⟨dx, e⟩ := tr.obj
    exact ⟨dx, ho _ _ e (by rw [tr.lt]; simp)⟩
  · obtain ⟨dx, ca, ta, ka, as, a1, a2, ⟨a3, a4, a5⟩, a6, a7, a8⟩ := (tr.sts y (List.mem_filter.mp hy).1).ex
    exact ⟨dx, ca, ta, ka, as, ho _ _ a1 (by rw [a2]; simp), a2, ⟨(f0 _ _ a3 a4).1, a4, a5.frm f0⟩, a6.frm f0, ho _ _ a7 (by rw [a8]; simp), a8⟩
end
/-! ### what makes and changes trees -/
section
variable {P : Program} {w : World} {K : PySem.W.Frag} {mg : Str → Option Value} {base : Heap} {C : Cl}
def sp_State_init (_K : PySem.W.Frag) (C : Cl) : Sp := fun vs H Q _ => vs.length = 6 ∧ ∃ (p dx ca ta : Addr) (n time : Nat) (po : Option Nat), vs = [.ref p, iV n, .int (encP po), .ref ca, .ref ta, iV time] ∧ H p = some (.ins C.st dx []) ∧
  ∀ (H' : Hp) (ka : Addr), H' p = some (.ins C.st dx [("number", iV n), ("parent", .int (encP po)), ("changes", .ref ca), ("text", .ref ta), ("time", iV time), ("is_kept", .bl false), ("children", .ref ka), ("visited", .int (-1))]) →
    H' ka = some (.lst []) → H ka = none → (∀ b u, H b = some u → b ≠ p → H' b = some u) → Q .non H'
abbrev s_State_init : Stmt := inClass (topS 31) 0
theorem sc_State_init : FnScope ["self", "number", "parent", "changes", "text", "time"] ["self", "number", "parent", "changes", "text", "time"] (defScope s_State_init) := ⟨rfl, rfl, rfl, by decide +kernel, rfl, by decide +kernel, by decide +kernel⟩
theorem b_State_init : Bind "__init__" "State.__init__" s_State_init ["self", "number", "parent", "changes", "text", "time"] := fun _ _ _ _ _ _ us hl => match us, hl with | [_, _, _, _, _, _], _ => rfl
theorem ok_State_init (T : Txt K mg C) (D : DefI K C.st "State.__init__" s_State_init) : CalI P w K mg base 1 C.st ["self", "number", "parent", "changes", "text", "time"] (sp_State_init K C) := by
  refine D.cal b_State_init fun f fd F => F.ok sc_State_init (fun vs H Q E h => h.1) (fun cdv A outer s H vs Q E hr h => ?_)
  have hu := hu_of hr
  refine ⟨_, (pss_cons (ps_fld (pv 0) (pv 1) rfl)
        (pss_cons (ps_fld (pv 0) (pv 2) rfl)
        (pss_cons (ps_fld (pv 0) (pv 3) rfl)
        (pss_cons (ps_fld (pv 0) (pv 4) rfl)
        (pss_cons (ps_fld (pv 0) (pv 5) rfl)
        (pss_cons (ps_fld (pv 0) pe_bl rfl)
        (pss_cons (ps_fld (pv 0) (pe_lst pa_nil) rfl)
        (pss_one (ps_fld (pv 0) (pk T.kNOBODY rfl) rfl))))))))), ?_⟩
  obtain ⟨_, p, dx, ca, ta, n, time, po, rfl, hp, k⟩ := h
  repeat walk_at "ub1"
  refine i_st hp T.cSt T.nNumber (by decide) ?_
  repeat walk_at "ub1"
  refine i_st upd_same T.cSt T.nParent (by show 1 < 1000; decide) ?_
  repeat walk_at "ub1"
  refine i_st upd_same T.cSt T.nChanges (by show 2 < 1000; decide) ?_
  repeat walk_at "ub1"
  refine i_st upd_same T.cSt T.nText (by show 3 < 1000; decide) ?_
  repeat walk_at "ub1"
  refine i_st upd_same T.cSt T.nTime (by show 4 < 1000; decide) ?_
  repeat walk_at "ub1"
  refine i_st upd_same T.cSt T.nKept (by show 5 < 1000; decide) ?_
  repeat walk_at "ub1"
  simp only [upd_upd]
  refine ⟨Nat.zero_le _, fun ka hka => ?_⟩
  have npk : p ≠ ka := ne_of_none upd_same hka
  have hka0 : H ka = none := by
    rw [upd_ne npk.symm] at hka
    exact hka
  repeat walk_at "ub1"
  refine i_st (Eq.trans (upd_ne npk) upd_same) T.cSt T.nChildren (by show 6 < 1000; decide) ?_
  repeat walk_at "ub1"
  refine i_st upd_same T.cSt T.nVisited (by show 7 < 1000; decide) ?_
  refine k _ ka upd_same ?_ hka0 fun b u e hb => ?_
  · rw [upd_ne npk.symm, upd_ne npk.symm, upd_same]
  · rw [upd_ne hb, upd_ne hb, upd_ne (ne_of_none e hka0), upd_ne hb]
    exact e
/-- the labels behind a new state -/
def Gh.add (G : Gh) (k : Nat) (s ka : Addr) : Gh := { G with L := fun b => if b = s then some (.st k) else if b = ka then some (.ch k) else G.L b, ad := fun j => if j = k then s else G.ad j }
/-- a new tree's labels -/
def Gh.one (t d s ka z : Addr) (L0 : Addr → Option Lbl) : Gh := ⟨fun b => if b = t then some .tree else if b = d then some .dict else if b = s then some (.st 0) else if b = ka then some (.ch 0) else L0 b, fun _ => s, t, d, z⟩
def sp_Tree_init (_K : PySem.W.Frag) (C : Cl) : Sp := fun vs H Q _ => vs.length = 2 ∧ ∃ (p dx ta z : Addr) (t : List Nat) (L0 : Addr → Option Lbl), vs = [.ref p, .ref ta] ∧ H p = some (.ins C.tr dx []) ∧ H ta = some (.lst (vInts t)) ∧ L0 ta = none ∧ (∀ b, H b = none → L0 b = none) ∧
  ∀ (H' : Hp) (G : Gh), G.t = p → G.s = z → TreeAt C G H' (Tr.fresh t) → (∀ b u, H b = some u → b ≠ p → H' b = some u ∧ G.L b = L0 b) → Q .non H'
abbrev s_Tree_init : Stmt := inClass (topS 32) 0
theorem sc_Tree_init : FnScope ["self", "text"] ["self", "text"] (defScope s_Tree_init) := ⟨rfl, rfl, rfl, by decide +kernel, rfl, by decide +kernel, by decide +kernel⟩
theorem b_Tree_init : Bind "__init__" "Tree.__init__" s_Tree_init ["self", "text"] := fun _ _ _ _ _ _ us hl => match us, hl with | [_, _], _ => rfl
theorem ok_Tree_init (T : Txt K mg C) (D : DefI K C.tr "Tree.__init__" s_Tree_init) (c_State_init : CalI P w K mg base 1 C.st ["self", "number", "parent", "changes", "text", "time"] (sp_State_init K C)) : CalI P w K mg base 3 C.tr ["self", "text"] (sp_Tree_init K C) := by
  refine D.cal b_Tree_init fun f fd F => F.ok sc_Tree_init (fun vs H Q E h => h.1) (fun cdv A outer s H vs Q E hr h => ?_)
  have hu := hu_of hr
  refine ⟨_, (pss_cons (ps_fld (pv 0) (pe_disp (pps_cons pe_int (pi_ c_State_init hr (by decide) (by rfl) T.gSt (pa_cons pe_int (pa_cons (pk T.kNOBODY rfl) (pa_cons (pe_lst pa_nil) (pa_cons (pv 1) (pa_cons pe_int pa_nil)))))) pps_nil) (by rfl) (by rfl) (fun z => by cases z) (by decide)) rfl)
        (pss_cons (ps_fld (pv 0) pe_int rfl)
        (pss_cons (ps_fld (pv 0) pe_int rfl)
        (pss_one (ps_fld (pv 0) pe_int rfl))))), ?_⟩
  obtain ⟨_, p, dx, ta, z, t, L0, rfl, hp, ht, lt0, l0, k⟩ := h
  repeat walk_at "ub1"
  intro d hd
  show (tC (.int 0)) _ _ fun x H1 => (tMake C.st (sp_State_init K C) [] E0 (tCons (tC (.int 0)) (tCons (tC (.int (-1))) (tCons (tLst tNil) (tCons (tVar 1) (tCons (tC (.int 0)) tNil)))))) _ H1 fun y H2 => tPairs [] _ H2 fun ps H3 => H3 d = some (.dK []) ∧ ∃ kvs : List (Key × V), ((x, y) :: ps) = kvs.map (fun kv => (kV kv.1, kv.2)) ∧ kvs.length ≤ 15 ∧ _
  repeat walk_at "ub1"
  refine ⟨Nat.zero_le _, fun ca hca => ?_⟩
  repeat walk_at "ub1"
  intro s dxs hs hdxs nds
  have npd : p ≠ d := ne_of_none hp hd
  have ndc : d ≠ ca := ne_of_none upd_same hca
  have nca : H ca = none := by rwa [upd_ne ndc.symm] at hca
  have nsc : s ≠ ca := fun e => by rw [e, upd_same] at hs; cases hs
  have nsd : s ≠ d := fun e => by rw [e, upd_ne ndc, upd_same] at hs; cases hs
  have ns : H s = none := by rwa [upd_ne nsc, upd_ne nsd] at hs
  have nxc : dxs ≠ ca := fun e => by rw [e, upd_same] at hdxs; cases hdxs
  have nxd : dxs ≠ d := fun e => by rw [e, upd_ne ndc, upd_same] at hdxs; cases hdxs
  have nx : H dxs = none := by rwa [upd_ne nxc, upd_ne nxd] at hdxs
  refine ⟨rfl, s, dxs, ca, ta, 0, 0, none, rfl, upd_same, fun H1 ka h1 h2 h3 h4 => ⟨rfl, ?_⟩⟩
  have nks : ka ≠ s := fun e => by rw [e, upd_same] at h3; cases h3
  have nkx : ka ≠ dxs := fun e => by rw [e, upd_ne nds, upd_same] at h3; cases h3
  have nkc : ka ≠ ca := fun e => by
    rw [e, upd_ne nsc.symm, upd_ne nxc.symm, upd_same] at h3
    cases h3
  have nkd : ka ≠ d := fun e => by
    rw [e, upd_ne nsd.symm, upd_ne nxd.symm, upd_ne ndc, upd_same] at h3
    cases h3
  have nk : H ka = none := by rwa [upd_ne nks, upd_ne nkx, upd_ne nkc, upd_ne nkd] at h3
  have old : ∀ b u, H b = some u → H1 b = some u := fun b u e => h4 b u (by rw [upd_ne (ne_of_none e ns), upd_ne (ne_of_none e nx), upd_ne (ne_of_none e nca), upd_ne (ne_of_none e hd)]; exact e) (ne_of_none e ns)
  have hd1 : H1 d = some (.dK []) := h4 d _ (by rw [upd_ne nsd.symm, upd_ne nxd.symm, upd_ne ndc, upd_same]) nsd.symm
  have hc1 : H1 ca = some (.lst []) := h4 ca _ (by rw [upd_ne nsc.symm, upd_ne nxc.symm, upd_same]) nsc.symm
  refine ⟨hd1, [(Sum.inl 0, .ref s)], rfl, (by show 1 ≤ 15; decide), ?_⟩
  have e0 : mergeK [] [((Sum.inl 0 : Key), V.ref s)] = [((Sum.inl 0 : Key), V.ref s)] := rfl
  rw [e0]
  show tVar 0 _ _ _
  repeat walk_at "ub1"
  refine i_st (Eq.trans (upd_ne npd) (old _ _ hp)) T.cTr T.nStates (by decide) ?_
  repeat walk_at "ub1"
  refine i_st upd_same T.cTr T.nRoot (by show 1 < 1000; decide) ?_
  repeat walk_at "ub1"
  refine i_st upd_same T.cTr T.nCurrent (by show 2 < 1000; decide) ?_
  repeat walk_at "ub1"
  refine i_st upd_same T.cTr T.nComing (by show 3 < 1000; decide) ?_
  simp only [upd_upd]
  have nsp : s ≠ p := (ne_of_none hp ns).symm
  have ncp : ca ≠ p := (ne_of_none hp nca).symm
  have nkp : ka ≠ p := (ne_of_none hp nk).symm
  have tdp : ta ≠ p := ne_of ht hp (by intro q; cases q)
  have tds : ta ≠ s := ne_of_none ht ns
  have tdd : ta ≠ d := ne_of_none ht hd
  have tdk : ta ≠ ka := ne_of_none ht nk
  refine k _ (Gh.one p d s ka z L0) rfl rfl ⟨⟨dx, upd_same⟩, ?_, ?_, ?_, ?_, ?_⟩ fun b u e hb => ⟨?_, ?_⟩
  · show (if p = p then _ else _) = _
    rw [if_pos rfl]
  · show upd (upd H1 d _) p _ d = _
    rw [upd_ne npd.symm, upd_same]
    rfl
  · show (if d = p then _ else if d = d then _ else _) = _
    rw [if_neg npd.symm, if_pos rfl]
  · intro x hx
    have ex : x = ⟨0, none, [], t, 0, false, [], none⟩ := by
      simpa [Tr.fresh] using hx
    subst ex
    refine ⟨dxs, ca, ta, ka, [], ?_, ?_, ⟨?_, ?_, .nil⟩, ⟨?_, ?_⟩, ?_, ?_⟩
    · show upd (upd H1 d _) p _ s = _
      rw [upd_ne nsp, upd_ne nsd]
      exact h1
    · show (if s = p then _ else if s = d then _ else if s = s then _ else _) = _
      rw [if_neg nsp, if_neg nsd, if_pos rfl]
    · rw [upd_ne ncp, upd_ne ndc.symm]
      exact hc1
    · show (if ca = p then _ else if ca = d then _ else if ca = s then _ else if ca = ka then _ else _) = _
      rw [if_neg ncp, if_neg ndc.symm, if_neg nsc.symm, if_neg nkc.symm]
      exact l0 _ nca
    · rw [upd_ne tdp, upd_ne tdd]
      exact old _ _ ht
    · show (if ta = p then _ else if ta = d then _ else if ta = s then _ else if ta = ka then _ else _) = _
      rw [if_neg tdp, if_neg tdd, if_neg tds, if_neg tdk]
      exact lt0
    · rw [upd_ne nkp, upd_ne nkd]
      exact h2
    · show (if ka = p then _ else if ka = d then _ else if ka = s then _ else if ka = ka then _ else _) = _
      rw [if_neg nkp, if_neg nkd, if_neg nks, if_pos rfl]
  · intro b hb
    have b1 := upd_none hb
    have b2 := upd_none b1
    have np : b ≠ p := fun e => by rw [e, upd_same] at hb; cases hb
    have nd : b ≠ d := fun e => by rw [e, upd_same] at b1; cases b1
    have nbs : b ≠ s := fun e => by rw [e, h1] at b2; cases b2
    have nbk : b ≠ ka := fun e => by rw [e, h2] at b2; cases b2
    show (if b = p then _ else if b = d then _ else if b = s then _ else if b = ka then _ else _) = _
    rw [if_neg np, if_neg nd, if_neg nbs, if_neg nbk]
    refine l0 b ?_
    cases e : H b with
    | none => rfl
    | some u => rw [old _ _ e] at b2; cases b2
  · rw [upd_ne hb, upd_ne (ne_of_none e hd)]
    exact old _ _ e
  · show (if b = p then _ else if b = d then _ else if b = s then _ else if b = ka then _ else _) = _
    rw [if_neg hb, if_neg (ne_of_none e hd), if_neg (ne_of_none e ns), if_neg (ne_of_none e nk)]
/-- a new state is put into the dict -/
theorem kvs_fresh {M : Tr} {ad : Nat → Addr} {k : Nat} {s : Addr} (h : ∀ y ∈ M.nodes, y.number ≠ k) : kvs M (fun j => if j = k then s else ad j) = kvs M ad := by
  unfold kvs
  refine List.map_congr_left fun y hy => ?_
  show ((Sum.inl (y.number : Int) : Key), V.ref (if y.number = k then s else ad y.number)) = _
  rw [if_neg (h y hy)]
theorem putK_kvs {M : Tr} {ad : Nat → Addr} {x : Nd} {s : Addr} (h : M.find x.number = none) : putK (kvs M ad) (Sum.inl (x.number : Int)) (V.ref s) = kvs { M with nodes := M.nodes ++ [x] } (fun j => if j = x.number then s else ad j) := by
  rw [putK_new _ (by rw [valV_kvs, h]; rfl)]
  have e := kvs_fresh (ad := ad) (s := s) (find_none.mp h)
  unfold kvs at e ⊢
  rw [List.map_append]
  show _ ++ _ = List.map (fun x_1 => ((Sum.inl (x_1.number : Int) : Key), V.ref (if x_1.number = x.number then s else ad x_1.number))) M.nodes ++ [((Sum.inl (x.number : Int) : Key), V.ref (if x.number = x.number then s else ad x.number))]
  rw [e, if_pos rfl]
/-- what is not the tree's own stays, and keeps its label -/
def FrC (G : Gh) (H : Hp) (G' : Gh) (H' : Hp) : Prop := ∀ b o, H b = some o → isT (G.L b) = false → H' b = some o ∧ G'.L b = G.L b
theorem FrC.frm {G G' : Gh} {H H' : Hp} (f : FrC G H G' H') : Frm G H G' H' := fun b o h l => ⟨(f b o h (by rw [l]; rfl)).1, (f b o h (by rw [l]; rfl)).2.trans l⟩
theorem FrC.then {G G' : Gh} {H H1 H2 : Hp} (f : FrC G H G' H1) (g : FrT G' H1 H2) : FrC G H G' H2 := fun b o h l => ⟨g b o (f b o h l).1 (by rw [(f b o h l).2]; exact l), (f b o h l).2⟩
theorem FrT.then {G G' : Gh} {H H1 H2 : Hp} (f : FrT G H H1) (g : FrC G H1 G' H2) : FrC G H G' H2 := fun b o h l => g b o (f b o h l) l
theorem TreeAt.add {G : Gh} {H0 H1 : Hp} {M : Tr} {x : Nd} {s ka dx ca ta : Addr} {as : List Addr} (tr : TreeAt C G H0 M) (ns : H0 s = none) (nk : H0 ka = none) (sm : Same H0 H1) (hs : H1 s = some (.ins C.st dx (stF x ca ta ka))) (hk : H1 ka = some (.lst []))
    (he : x.children = []) (hc : H0 ca = some (.lst (as.map V.ref))) (lc : G.L ca = none) (hcs : ChsAt C G H0 as x.changes) (ht : TextAt G H0 ta x.text) (hf : M.find x.number = none) :
    TreeAt C (G.add x.number s ka) (upd H1 G.d (.dK (putK (kvs M G.ad) (Sum.inl (x.number : Int)) (.ref s)))) { M with nodes := M.nodes ++ [x] } ∧ FrC G H0 (G.add x.number s ka) (upd H1 G.d (.dK (putK (kvs M G.ad) (Sum.inl (x.number : Int)) (.ref s)))) := by
  have nsk : s ≠ ka := ne_of hs hk (by intro q; cases q)
  have lab : ∀ b o, H0 b = some o → (G.add x.number s ka).L b = G.L b := fun b o e => by
    show (if b = s then _ else if b = ka then _ else G.L b) = _
    rw [if_neg (ne_of_none e ns), if_neg (ne_of_none e nk)]
  have ho : ∀ b o, H0 b = some o → G.L b ≠ some .dict → upd H1 G.d (.dK (putK (kvs M G.ad) (Sum.inl (x.number : Int)) (.ref s))) b = some o := fun b o e z => by
    rw [upd_ne (ne_lab (by rw [tr.ld]; exact z))]
    exact sm _ _ e
  have fr : FrC G H0 (G.add x.number s ka) (upd H1 G.d (.dK (putK (kvs M G.ad) (Sum.inl (x.number : Int)) (.ref s)))) := fun b o e z => ⟨ho b o e (fun y => by rw [y] at z; cases z), lab b o e⟩
  have f0 := fr.frm
  have nsd : s ≠ G.d := (ne_of_none tr.dict ns).symm
  have nkd : ka ≠ G.d := (ne_of_none tr.dict nk).symm
  refine ⟨⟨?_, ?_, ?_, ?_, ?_, ?_⟩, fr⟩
  · obtain ⟨dx, e⟩ := tr.obj
    exact ⟨dx, ho _ _ e (by show G.L G.t ≠ _; rw [tr.lt]; simp)⟩
  · obtain ⟨dx, e⟩ := tr.obj
    exact (lab _ _ e).trans tr.lt
  · show upd H1 G.d _ G.d = _
    rw [upd_same, putK_kvs hf]
    rfl
  · exact (lab _ _ tr.dict).trans tr.ld
  · intro y hy
    rcases List.mem_append.mp hy with hm | hm
    · obtain ⟨dx, ca, ta, ka', as, a1, a2, ⟨a3, a4, a5⟩, a6, a7, a8⟩ := (tr.sts y hm).ex
      have ea : (G.add x.number s ka).ad y.number = G.ad y.number := if_neg (find_none.mp hf y hm)
      refine ⟨dx, ca, ta, ka', as, ?_, ?_, ⟨(f0 _ _ a3 a4).1, (f0 _ _ a3 a4).2, a5.frm f0⟩, a6.frm f0, ho _ _ a7 (by rw [a8]; simp), (lab _ _ a7).trans a8⟩
      · rw [ea]
        exact ho _ _ a1 (by rw [a2]; simp)
      · rw [ea]
        exact (lab _ _ a1).trans a2
    · have ex : y = x := by simpa using hm
      subst ex
      have ea : (G.add y.number s ka).ad y.number = s := if_pos rfl
      refine ⟨dx, ca, ta, ka, as, ?_, ?_, ⟨(f0 _ _ hc lc).1, (f0 _ _ hc lc).2, hcs.frm f0⟩, ht.frm f0, ?_, ?_⟩
      · rw [ea, upd_ne nsd]
        exact hs
      · rw [ea]
        exact if_pos rfl
      · rw [upd_ne nkd, he]
        exact hk
      · show (if ka = s then _ else if ka = ka then _ else _) = _
        rw [if_neg nsk.symm, if_pos rfl]
  · intro b hb
    have b1 := upd_none hb
    have nbs : b ≠ s := fun e => by rw [e, hs] at b1; cases b1
    have nbk : b ≠ ka := fun e => by rw [e, hk] at b1; cases b1
    show (if b = s then _ else if b = ka then _ else G.L b) = _
    rw [if_neg nbs, if_neg nbk]
    exact tr.lok b (sm.free b1)
theorem upd_twice {M : Tr} {k : Nat} {f g : Nd → Nd} (hf : Numb f) : (M.upd k f).upd k g = M.upd k (fun x => g (f x)) := by
  unfold Tr.upd
  simp only [List.map_map]
  congr 1
  refine List.map_congr_left fun x _ => ?_
  show (if (if x.number = k then f x else x).number = k then g (if x.number = k then f x else x) else (if x.number = k then f x else x)) = if x.number = k then g (f x) else x
  rw [ite_numb hf]
  by_cases e : x.number = k
  · rw [if_pos e, if_pos e, if_pos e]
  · rw [if_neg e, if_neg e, if_neg e]
def moreKid (n : Nat) (x : Nd) : Nd := { x with children := x.children ++ [n] }
theorem nb_more (n : Nat) : Numb (moreKid n) := fun _ => rfl
def sp_Tree_create (_K : PySem.W.Frag) (C : Cl) : Sp := fun vs H Q _ => vs.length = 4 ∧ ∃ (G : Gh) (M : Tr) (ca ta : Addr) (as : List Addr) (cs : List Chg) (t : List Nat) (time : Nat), vs = [.ref G.t, .ref ca, .ref ta, iV time] ∧ TreeAt C G H M ∧ WF M ∧ Sm M ∧
  H ca = some (.lst (as.map V.ref)) ∧ G.L ca = none ∧ ChsAt C G H as cs ∧ TextAt G H ta t ∧
  ∀ (H' : Hp) (G' : Gh), G'.t = G.t → G'.s = G.s → TreeAt C G' H' (create M cs t time) → FrC G H G' H' → Q (iV M.coming) H'
theorem kvs_len (M : Tr) (ad : Nat → Addr) : (kvs M ad).length = M.nodes.length := List.length_map _
abbrev s_Tree_create : Stmt := inClass (topS 32) 5
theorem sc_Tree_create : FnScope ["self", "changes", "text", "time", "number", "parent"] ["self", "changes", "text", "time"] (defScope s_Tree_create) := ⟨rfl, rfl, rfl, by decide +kernel, rfl, by decide +kernel, by decide +kernel⟩
theorem b_Tree_create : Bind "create" "Tree.create" s_Tree_create ["self", "changes", "text", "time"] := fun _ _ _ _ _ _ us hl => match us, hl with | [_, _, _, _], _ => rfl
theorem ok_Tree_create (T : Txt K mg C) (D : DefM K C.tr "create" "Tree.create" s_Tree_create) (c_Tree_here : CalM P w K mg base 1 C.tr "here" ["self"] (sp_Tree_here K C)) (c_State_init : CalI P w K mg base 1 C.st ["self", "number", "parent", "changes", "text", "time"] (sp_State_init K C)) : CalM P w K mg base 3 C.tr "create" ["self", "changes", "text", "time"] (sp_Tree_create K C) := by
  refine D.cal b_Tree_create fun f fd F => F.ok sc_Tree_create (fun vs H Q E h => h.1) (fun cdv A outer s H vs Q E hr h => ?_)
  have hu := hu_of hr
  refine ⟨_, (pss_cons (ps_set (i := 4) sc_Tree_create.nd rfl (Or.inl rfl) (pe_fld (pv 0) rfl))
        (pss_cons (ps_fld (pv 0) (pe_op op_add (pv 4) pe_int) rfl)
        (pss_cons (ps_dput hu (pe_fld (pv 0) rfl) (pv 4) (pi_ c_State_init hr (by decide) (by rfl) T.gSt (pa_cons (pv 4) (pa_cons (pe_fld (pv 0) rfl) (pa_cons (pv 1) (pa_cons (pv 2) (pa_cons (pv 3) pa_nil)))))) rfl)
        (pss_cons (ps_set (i := 5) sc_Tree_create.nd rfl (Or.inl rfl) (pm0 c_Tree_here T.cTr hr (by decide) (pv 0)))
        (pss_cons (ps_expr (pe_bm PySem.F.plainAttrs_list PySem.F.slot_list_append PySem.F.type_list_append mt_append (pe_fld (pv 5) rfl) (pa_cons (pv 4) pa_nil)))
        (pss_cons (ps_fld (pv 5) (pv 4) rfl)
        (pss_cons (ps_fld (pv 0) (pv 4) rfl)
        (pss_one (ps_ret (pv 4)))))))))), ?_⟩
  obtain ⟨_, G, M, ca, ta, as, cs, t, time, rfl, tr, W, sm, hc, lc, hcs, ht, k⟩ := h
  obtain ⟨c, hcur⟩ := W.cur
  have fresh : M.find M.coming = none := find_none.mpr fun y hy e => by have := W.lt y hy; omega
  have ncur : M.current ≠ M.coming := by have := find_lt W hcur; omega
  have small : M.nodes.length ≤ 1000 := Nat.le_trans (Nat.le_trans (nodes_len W) sm) (by decide)
  repeat walk_at "ub1"
  refine rdT_coming T tr ?_
  repeat walk_at "ub1"
  refine stT T (M' := { M with coming := M.coming + 1 }) T.nComing tr rfl (fun d => rfl) fun H0 tr0 f0 => ?_
  repeat walk_at "ub1"
  show tMake _ _ _ _ _ _ H0 _
  repeat walk_at "ub1"
  refine rdT_current T tr0 ?_
  repeat walk_at "ub1"
  intro s dxs hs hdxs nds
  refine ⟨rfl, s, dxs, ca, ta, M.coming, time, some M.current, rfl, upd_same, fun H1 ka h1 h2 h3 h4 => ⟨rfl, ?_⟩⟩
  have nks : ka ≠ s := fun e => by rw [e, upd_same] at h3; cases h3
  have nkx : ka ≠ dxs := fun e => by rw [e, upd_ne nds, upd_same] at h3; cases h3
  have nk : H0 ka = none := by rwa [upd_ne nks, upd_ne nkx] at h3
  have old : Same H0 H1 := fun b u e => h4 b u (by rw [upd_ne (ne_of_none e hs), upd_ne (ne_of_none e hdxs)]; exact e) (ne_of_none e hs)
  obtain ⟨tr1, f1⟩ := tr0.add (x := newNd M cs t time) hs nk old h1 h2 rfl (f0 _ _ hc (by rw [lc]; rfl)) lc (hcs.frm f0.frm) (ht.frm f0.frm) fresh
  show tFld _ _ _ _ H1 _
  repeat walk_at "ub1"
  refine rdT_states T (tr0.same old) ?_
  repeat walk_at "ub1"
  refine ⟨G.d, _, rfl, DPut.k (k := Sum.inl (M.coming : Int)) (old _ _ tr0.dict) (bigl (by rw [kvs_len]; exact Nat.le_trans small (by decide))), ?_⟩
  have hcur1 : Tr.find { nodes := M.nodes ++ [newNd M cs t time], root := M.root, current := M.current, coming := M.coming + 1 } M.current = some c := by
    have hcur' := hcur
    unfold Tr.find at hcur' ⊢
    rw [List.find?_append, hcur']
    rfl
  have inc1 : Inc { nodes := M.nodes ++ [newNd M cs t time], root := M.root, current := M.current, coming := M.coming + 1 } := by
    refine List.pairwise_append.mpr ⟨W.inc, by simp, fun a ha b hb => ?_⟩
    have eb : b = newNd M cs t time := by simpa using hb
    subst eb
    exact W.lt a ha
  have sml : c.children.length ≤ 1000 := Nat.le_trans (kids_len W (mem_of_find hcur).1) small
  generalize hG : Gh.add G (newNd M cs t time).number s ka = G1 at tr1 f1
  have et : G1.t = G.t := by rw [← hG]; rfl
  have es : G1.s = G.s := by rw [← hG]; rfl
  generalize eH2 : upd H1 G.d (HO.dK (putK (kvs _ G.ad) (Sum.inl (M.coming : Int)) (V.ref s))) = H2
  replace tr1 : TreeAt C G1 H2 { nodes := M.nodes ++ [newNd M cs t time], root := M.root, current := M.current, coming := M.coming + 1 } := by
    rw [← eH2]
    exact tr1
  replace f1 : FrC G H0 G1 H2 := by
    rw [← eH2]
    exact f1
  rw [← et]
  repeat walk_at "ub1"
  refine mtT tr1 ?_
  repeat walk_at "ub1"
  refine ⟨rfl, G1, _, c, rfl, tr1, hcur1, ?_⟩
  repeat walk_at "ub1"
  refine rdS_kids T tr1 hcur1 fun k1 q1 q2 q3 => ?_
  refine ⟨.inl ⟨rfl, _, SqL.of q1⟩, ?_⟩
  repeat walk_at "ub1"
  obtain ⟨tr2, f2⟩ := tr1.kids (f := moreKid M.coming) (l := c.children ++ [M.coming]) inc1 hcur1 (nb_more _) (fun _ _ _ => rfl) ⟨rfl, rfl⟩ rfl q1 q2 q3
  refine ⟨k1, _, iV M.coming, rfl, rfl, q1, bigl (by rw [vInts_len]; exact Nat.le_trans sml (by decide)), ?_⟩
  rw [vInts_app] at tr2 f2
  generalize eH3 : upd H2 k1 (HO.lst (vInts c.children ++ [iV M.coming])) = H3
  replace f2 : FrT G1 H2 H3 := by
    rw [← eH3]
    exact f2
  replace tr2 := eH3 ▸ tr2
  repeat walk_at "ub1"
  refine stS T T.nVisited tr2 (inc1.upd (nb_more _) _) (find_upd_eq (nb_more _) hcur1) (nb_vis M.coming) ⟨rfl, rfl, rfl⟩ (fun _ _ _ => rfl) fun H4 tr4 f4 => ?_
  repeat walk_at "ub1"
  refine stT T (M' := create M cs t time) T.nCurrent tr4 ?_ (fun d => rfl) fun H5 tr5 f5 => ?_
  · rw [upd_twice (nb_more _)]
    rfl
  repeat walk_at "ub1"
  exact k _ G1 et es tr5 ((f0.then f1).then ((f2.trans f4).trans f5))
end
/-! ### visits and deletions -/
section
variable {P : Program} {w : World} {K : PySem.W.Frag} {mg : Str → Option Value} {base : Heap} {C : Cl}
theorem mark_snoc (M : Tr) (l : List (Nat × Nat)) (p : Nat × Nat) : mark M (l ++ [p]) = (mark M l).upd p.1 (setVis p.2) := by
  unfold mark
  rw [List.foldl_append]
  rfl
theorem mark_inc : ∀ (l : List (Nat × Nat)) {M : Tr}, Inc M → Inc (mark M l)
  | [], _, I => I
  | p :: l, _, I => mark_inc l (I.upd (nb_vis p.2) p.1)
theorem mark_find {k : Nat} : ∀ (l : List (Nat × Nat)) {M : Tr}, (∃ x, M.find k = some x) → ∃ y, (mark M l).find k = some y
  | [], _, h => h
  | p :: l, M, ⟨x, hx⟩ => mark_find l (M := M.upd p.1 (setVis p.2)) (by rw [find_upd (nb_vis _), hx]; exact ⟨_, rfl⟩)
theorem mark_rest : ∀ (l : List (Nat × Nat)) (M : Tr), (mark M l).root = M.root ∧ (mark M l).current = M.current ∧ (mark M l).coming = M.coming
  | [], _ => ⟨rfl, rfl, rfl⟩
  | p :: l, M => mark_rest l (M.upd p.1 (setVis p.2))
theorem eraseIdx_mapN {A B : Type} (f : A → B) : ∀ (l : List A) (j : Nat), (l.map f).eraseIdx j = (l.eraseIdx j).map f
  | [], _ => rfl
  | _ :: _, 0 => rfl
  | a :: l, j + 1 => by
    show f a :: (l.map f).eraseIdx j = f a :: (l.eraseIdx j).map f
    rw [eraseIdx_mapN f l j]
def sp_Tree_visit (_K : PySem.W.Frag) (C : Cl) : Sp := fun vs H Q _ => vs.length = 2 ∧ ∃ (G : Gh) (M : Tr) (n : Nat) (x : Nd), vs = [.ref G.t, iV n] ∧ TreeAt C G H M ∧ WF M ∧ Sm M ∧ M.find n = some x ∧
  ∀ H', TreeAt C G H' (visit M n) → FrT G H H' → Q .non H'
abbrev s_Tree_visit : Stmt := inClass (topS 32) 7
theorem sc_Tree_visit : FnScope ["self", "number", "way", "above", "below", "state"] ["self", "number"] (defScope s_Tree_visit) := ⟨rfl, rfl, rfl, by decide +kernel, rfl, by decide +kernel, by decide +kernel⟩
theorem b_Tree_visit : Bind "visit" "Tree.visit" s_Tree_visit ["self", "number"] := fun _ _ _ _ _ _ us hl => match us, hl with | [_, _], _ => rfl
theorem ok_Tree_visit (T : Txt K mg C) (D : DefM K C.tr "visit" "Tree.visit" s_Tree_visit) (c_Tree_way_to : CalM P w K mg base 1 C.tr "way_to" ["self", "number"] (sp_Tree_way_to K C)) : CalM P w K mg base 2 C.tr "visit" ["self", "number"] (sp_Tree_visit K C) := by
  refine D.cal b_Tree_visit fun f fd F => F.ok sc_Tree_visit (fun vs H Q E h => h.1) (fun cdv A outer s H vs Q E hr h => ?_)
  have hu := hu_of hr
  refine ⟨_, (pss_cons (ps_set (i := 2) sc_Tree_visit.nd rfl (Or.inl rfl) (pm c_Tree_way_to T.cTr hr (by decide) (pv 0) (pa_cons (pv 1) pa_nil)))
        (pss_cons (ps_for PassesOwn.never rfl (pi_zip (by rfl) T.zip (pa_cons (pv 2) (pa_cons (pe_slice sl_list (pv 2) (po_some pe_int) po_none) pa_nil))) (pg_tup rfl (pgs_cons (pg_name (i := 3) sc_Tree_visit.nd rfl (Or.inl rfl)) (pgs_cons (pg_name (i := 4) sc_Tree_visit.nd rfl (Or.inl rfl)) pgs_nil))) (pss_cons (ps_set (i := 5) sc_Tree_visit.nd rfl (Or.inl rfl) (pe_dget hu (pe_fld (pv 0) rfl) (pv 3) (fun _ _ => rfl)))
        (pss_one (ps_fld (pv 5) (pv 4) rfl))))
        (pss_one (ps_fld (pv 0) (pv 1) rfl)))), ?_⟩
  obtain ⟨_, G, M, n, x, rfl, tr, W, sm, hx, k⟩ := h
  repeat walk_at "ub1"
  refine mtT tr ?_
  repeat walk_at "ub1"
  refine ⟨rfl, G, M, n, x, rfl, tr, W, sm, hx, fun H1 p1 s1 n1 e1 => ?_⟩
  have tr1 := tr.same s1
  repeat walk_at "ub1"
  refine ⟨p1, _, rfl, SqL.of e1, fun p2 n2 => ?_⟩
  have e0 : ((1 : Nat) : Int) = 1 := rfl
  have s2 := Same.new (o := .lst (cutV (vInts (wayTo M n)) (some ((1 : Nat) : Int)) none)) n2
  rw [cutV_from] at s2
  have ec : cutV (vInts (wayTo M n)) (some 1) none = vInts ((wayTo M n).drop 1) := by
    rw [← e0, cutV_from]
    unfold vInts
    rw [List.map_drop]
  rw [ec]
  have s2 := Same.new (o := .lst (vInts ((wayTo M n).drop 1))) n2
  have e2 : upd H1 p2 (.lst (vInts ((wayTo M n).drop 1))) p2 = some (.lst (vInts ((wayTo M n).drop 1))) := upd_same
  have tr2 := tr1.same s2
  have e1' := s2 _ _ e1
  have l1 : isT (G.L p1) = false := by rw [tr.lok p1 n1]; rfl
  have l2 : isT (G.L p2) = false := by rw [tr1.lok p2 n2]; rfl
  generalize upd H1 p2 (.lst (vInts ((wayTo M n).drop 1))) = H2 at *
  refine ⟨p1, p2, _, _, rfl, SqL.of e1', SqL.of e2, for_zipM (fun i σ H' => ∃ v3 v4 v5, σ = [some (.ref G.t), some (iV n), some (.ref p1), v3, v4, v5] ∧ TreeAt C G H' (mark M (((wayTo M n).zip (wayTo M n).tail).take i)) ∧ FrT G H2 H') ⟨none, none, none, rfl, tr2, .refl⟩
    (fun i σ H' ⟨_, _, _, _, _, f⟩ => ⟨SqL.of (f _ _ e1' l1), SqL.of (f _ _ e2 l2)⟩) ?_ ?_⟩
  · rintro i a b t σ H' ha hb ⟨v3, v4, v5, rfl, tr3, f3⟩ ht
    obtain ⟨n3, hn3, rfl⟩ := vInts_at ha
    obtain ⟨n4, hn4, rfl⟩ := vInts_at hb
    refine ⟨t, _, rfl, SqT.of upd_same, rfl, _, _, rfl, _, _, rfl, rfl, ?_⟩
    have s4 := Same.new (o := .tup [iV n3, iV n4]) ht
    have tr4 := tr3.same s4
    obtain ⟨y, hy⟩ := way_has W n x hx n3 (List.mem_of_getElem? hn3)
    obtain ⟨y', hy'⟩ := mark_find (((wayTo M n).zip (wayTo M n).tail).take i) ⟨y, hy⟩
    repeat walk_at "ub1"
    refine rdT_states T tr4 ?_
    repeat walk_at "ub1"
    refine atT tr4 hy' ?_
    repeat walk_at "ub1"
    refine stS T T.nVisited tr4 (mark_inc _ W.inc) hy' (nb_vis n4) ⟨rfl, rfl, rfl⟩ (fun _ _ _ => rfl) fun H5 tr5 f5 => ?_
    have hz : ((wayTo M n).zip (wayTo M n).tail)[i]? = some (n3, n4) := by
      rw [List.getElem?_zip_eq_some]
      refine ⟨hn3, ?_⟩
      rw [← List.drop_one]
      exact hn4
    refine ⟨_, _, _, rfl, ?_, f3.trans ((FrT.of s4).trans f5)⟩
    rw [take_more hz, mark_snoc]
    exact tr5
  · rintro σ H' ⟨v3, v4, v5, rfl, tr3, f3⟩
    rw [vInts_len, vInts_len, List.drop_one, ← List.length_zip, List.take_length] at tr3
    repeat walk_at "ub1"
    refine stT T (M' := visit M n) T.nCurrent tr3 rfl (fun d => ?_) fun H5 tr5 f5 => k _ tr5 (((FrT.of s1).trans (FrT.of s2)).trans (f3.trans f5))
    unfold visit trF
    rfl
theorem erase_at : ∀ (l : List Nat) (n : Nat), n ∈ l → ∃ j, l[j]? = some n ∧ (∀ m, m < j → l[m]? ≠ some n) ∧ l.erase n = l.eraseIdx j
  | a :: l, n, h => by
    by_cases e : a = n
    · subst e
      exact ⟨0, rfl, fun m hm => absurd hm (Nat.not_lt_zero _), by simp⟩
    · have hm : n ∈ l := by
        rcases List.mem_cons.mp h with q | q
        · exact absurd q.symm e
        · exact q
      obtain ⟨j, h1, h2, h3⟩ := erase_at l n hm
      refine ⟨j + 1, h1, fun m hm => ?_, ?_⟩
      · cases m with
        | zero => simp [e]
        | succ m => exact h2 m (by omega)
      · rw [List.erase_cons_tail (by simp [e]), h3]
        rfl
theorem vInts_ints (l : List Nat) : vInts l = (l.map fun (n : Nat) => (n : Int)).map V.int := by
  unfold vInts
  rw [List.map_map]
  rfl
def sp_Tree_take_away (_K : PySem.W.Frag) (C : Cl) : Sp := fun vs H Q _ => vs.length = 2 ∧ ∃ (G : Gh) (M : Tr) (n : Nat) (x : Nd), vs = [.ref G.t, iV n] ∧ TreeAt C G H M ∧ WF M ∧ M.find n = some x ∧ n ≠ M.root ∧
  ∀ H', TreeAt C G H' (takeAway M n) → FrT G H H' → Q .non H'
abbrev s_Tree_take_away : Stmt := inClass (topS 32) 8
theorem sc_Tree_take_away : FnScope ["self", "number", "parent"] ["self", "number"] (defScope s_Tree_take_away) := ⟨rfl, rfl, rfl, by decide +kernel, rfl, by decide +kernel, by decide +kernel⟩
theorem b_Tree_take_away : Bind "take_away" "Tree.take_away" s_Tree_take_away ["self", "number"] := fun _ _ _ _ _ _ us hl => match us, hl with | [_, _], _ => rfl
theorem ok_Tree_take_away (T : Txt K mg C) (D : DefM K C.tr "take_away" "Tree.take_away" s_Tree_take_away) : CalM P w K mg base 1 C.tr "take_away" ["self", "number"] (sp_Tree_take_away K C) := by
  refine D.cal b_Tree_take_away fun f fd F => F.ok sc_Tree_take_away (fun vs H Q E h => h.1) (fun cdv A outer s H vs Q E hr h => ?_)
  have hu := hu_of hr
  refine ⟨_, (pss_cons (ps_set (i := 2) sc_Tree_take_away.nd rfl (Or.inl rfl) (pe_dget hu (pe_fld (pv 0) rfl) (pe_fld (pe_dget hu (pe_fld (pv 0) rfl) (pv 1) (fun _ _ => rfl)) rfl) (fun _ _ => rfl)))
        (pss_cons (ps_expr (pe_bm PySem.F.plainAttrs_list PySem.F.slot_list_remove PySem.F.type_list_remove mt_remove (pe_fld (pv 2) rfl) (pa_cons (pv 1) pa_nil)))
        (pss_one (ps_expr (pe_dpop1 (pe_fld (pv 0) rfl) (pv 1) ⟨rfl, rfl, rfl, rfl⟩))))), ?_⟩
  obtain ⟨_, G, M, n, x, rfl, tr, W, hx, nr, k⟩ := h
  obtain ⟨m, ex⟩ := mem_of_find hx
  obtain ⟨p, y, hp, lp, hy, _⟩ := W.up x m (by rw [ex]; exact nr)
  have hn : n ∈ y.children := by
    rw [← ex]
    exact (kid_of W (mem_of_find hy).1 m).mpr (by rw [hp, (mem_of_find hy).2])
  repeat walk_at "ub1"
  refine rdT_states T tr ?_
  repeat walk_at "ub1"
  refine rdT_states T tr ?_
  repeat walk_at "ub1"
  refine atT tr hx ?_
  refine rdS_parent T tr hx ?_
  rw [hp]
  refine atT tr hy ?_
  repeat walk_at "ub1"
  refine rdS_kids T tr hy fun ka q1 q2 q3 => ?_
  refine ⟨.inl ⟨rfl, _, SqL.of q1⟩, ?_⟩
  repeat walk_at "ub1"
  obtain ⟨j, h1, h2, h3⟩ := erase_at y.children n hn
  refine ⟨ka, y.children.map fun (n : Nat) => (n : Int), (n : Int), j, rfl, rfl, by rw [q1, vInts_ints], by rw [List.getElem?_map, h1]; rfl, fun i hi e => ?_, ?_⟩
  · rw [List.getElem?_map] at e
    cases e2 : y.children[i]? with
    | none => rw [e2] at e; cases e
    | some z =>
      rw [e2] at e
      have : (z : Int) = n := Option.some.inj e
      have e3 : z = n := by omega
      exact h2 i hi (by rw [e2, e3])
  obtain ⟨tr2, f2⟩ := tr.kids (f := delKid n) (l := y.children.erase n) W.inc hy (nb_del _) (fun _ _ _ => rfl) ⟨rfl, rfl⟩ rfl q1 q2 q3
  have el : ((y.children.map fun (n : Nat) => (n : Int)).eraseIdx j).map V.int = vInts (y.children.erase n) := by
    rw [vInts_ints, h3, eraseIdx_mapN]
  rw [el]
  generalize upd H ka (.lst (vInts (y.children.erase n))) = H2 at tr2 f2 ⊢
  have hx2 : ∃ x', (M.upd p (delKid n)).find n = some x' := by
    rw [find_upd (nb_del _), hx]
    exact ⟨_, rfl⟩
  obtain ⟨x', hx'⟩ := hx2
  repeat walk_at "ub1"
  show tFld _ _ _ _ H2 _
  repeat walk_at "ub1"
  refine rdT_states T tr2 ?_
  refine ⟨G.d, rfl, .inl ⟨_, .inl tr2.dict⟩, ?_⟩
  repeat walk_at "ub1"
  refine ⟨_, Sum.inl (n : Int), .ref (G.ad n), tr2.dict, rfl, by rw [valV_kvs, hx']; rfl, ?_⟩
  obtain ⟨tr3, f3⟩ := tr2.pop (n := n)
  refine k _ ?_ (f2.trans f3)
  have et : takeAway M n = { M.upd p (delKid n) with nodes := (M.upd p (delKid n)).nodes.filter fun x => x.number != n } := by
    unfold takeAway
    rw [hx]
    show (match x.parent with | some p => _ | none => M) = _
    rw [hp]
  rw [et]
  exact tr3
def noParent (x : Nd) : Nd := { x with parent := none }
def noChanges (x : Nd) : Nd := { x with changes := [] }
theorem nb_np : Numb noParent := fun _ => rfl
theorem nb_nc : Numb noChanges := fun _ => rfl
def sp_Tree_take_root_away (_K : PySem.W.Frag) (C : Cl) : Sp := fun vs H Q _ => vs.length = 1 ∧ ∃ (G : Gh) (M : Tr) (r : Nd) (c : Nat), vs = [.ref G.t] ∧ TreeAt C G H M ∧ WF M ∧ M.find M.root = some r ∧ r.children = [c] ∧
  ∀ H', TreeAt C G H' (takeRoot M) → FrT G H H' → Q .non H'
abbrev s_Tree_take_root_away : Stmt := inClass (topS 32) 9
theorem sc_Tree_take_root_away : FnScope ["self", "old", "child"] ["self"] (defScope s_Tree_take_root_away) := ⟨rfl, rfl, rfl, by decide +kernel, rfl, by decide +kernel, by decide +kernel⟩
theorem b_Tree_take_root_away : Bind "take_root_away" "Tree.take_root_away" s_Tree_take_root_away ["self"] := fun _ _ _ _ _ _ us hl => match us, hl with | [_], _ => rfl
theorem ok_Tree_take_root_away (T : Txt K mg C) (D : DefM K C.tr "take_root_away" "Tree.take_root_away" s_Tree_take_root_away) : CalM P w K mg base 1 C.tr "take_root_away" ["self"] (sp_Tree_take_root_away K C) := by
  refine D.cal b_Tree_take_root_away fun f fd F => F.ok sc_Tree_take_root_away (fun vs H Q E h => h.1) (fun cdv A outer s H vs Q E hr h => ?_)
  have hu := hu_of hr
  refine ⟨_, (pss_cons (ps_set (i := 1) sc_Tree_take_root_away.nd rfl (Or.inl rfl) (pe_fld (pv 0) rfl))
        (pss_cons (ps_set (i := 2) sc_Tree_take_root_away.nd rfl (Or.inl rfl) (pe_dget hu (pe_fld (pv 0) rfl) (pe_ix ix_list (pe_fld (pe_dget hu (pe_fld (pv 0) rfl) (pv 1) (fun _ _ => rfl)) rfl) pe_int (fun _ _ => rfl)) (fun _ _ => rfl)))
        (pss_cons (ps_fld (pv 2) (pk T.kNOBODY rfl) rfl)
        (pss_cons (ps_fld (pv 2) (pe_lst pa_nil) rfl)
        (pss_cons (ps_fld (pv 0) (pe_fld (pv 2) rfl) rfl)
        (pss_one (ps_expr (pe_dpop1 (pe_fld (pv 0) rfl) (pv 1) ⟨rfl, rfl, rfl, rfl⟩)))))))), ?_⟩
  obtain ⟨_, G, M, r, c, rfl, tr, W, hr0, hc, k⟩ := h
  obtain ⟨x, hx, hpx⟩ := kid_mem W (mem_of_find hr0).1 (k := c) (by rw [hc]; simp)
  have ncr : c ≠ M.root := fun e => by
    obtain ⟨r', h1, h2⟩ := W.root
    rw [e, h1] at hx
    cases hx
    rw [h2] at hpx
    cases hpx
  repeat walk_at "ub1"
  refine rdT_root T tr ?_
  repeat walk_at "ub1"
  refine rdT_states T tr ?_
  repeat walk_at "ub1"
  refine rdT_states T tr ?_
  repeat walk_at "ub1"
  refine atT tr hr0 ?_
  refine rdS_children T tr hr0 fun ka q1 q2 => ?_
  repeat walk_at "ub1"
  refine ⟨ka, _, _, iV c, rfl, rfl, SqL.of q1, by rw [hc]; rfl, ?_⟩
  refine atT tr hx ?_
  repeat walk_at "ub1"
  refine stS T T.nParent tr W.inc hx nb_np ⟨rfl, rfl, rfl⟩ (fun _ _ _ => rfl) fun H1 tr1 f1 => ?_
  have hx1 := find_upd_eq nb_np hx
  repeat walk_at "ub1"
  refine ⟨Nat.zero_le _, fun cz hz => ?_⟩
  have s2 := Same.new (o := .lst []) hz
  have tr2 := tr1.same s2
  repeat walk_at "ub1"
  refine stS_changes T tr2 (Inc.upd W.inc nb_np _) hx1 nb_nc ⟨rfl, rfl, rfl⟩ (fun _ _ _ _ => rfl) upd_same (tr1.lok _ hz) fun H3 tr3 f3 => ?_
  have hx3 := find_upd_eq nb_nc hx1
  repeat walk_at "ub1"
  refine rdS_number T tr3 hx3 ?_
  have en : (noChanges (noParent x)).number = c := (mem_of_find hx).2
  rw [en]
  repeat walk_at "ub1"
  rw [upd_twice nb_np] at tr3
  refine stT T (M' := { M.upd c toRoot with root := c }) T.nRoot tr3 rfl (fun d => rfl) fun H4 tr4 f4 => ?_
  repeat walk_at "ub1"
  show tFld _ _ _ _ H4 _
  repeat walk_at "ub1"
  refine rdT_states T tr4 ?_
  refine ⟨G.d, rfl, .inl ⟨_, .inl tr4.dict⟩, ?_⟩
  repeat walk_at "ub1"
  have hr4 : ∃ r', Tr.find { M.upd c toRoot with root := c } M.root = some r' := by
    have : (M.upd c toRoot).find M.root = some r := by rw [find_upd_ne nb_root ncr.symm]; exact hr0
    exact ⟨r, this⟩
  obtain ⟨r', hr4⟩ := hr4
  refine ⟨_, Sum.inl (M.root : Int), .ref (G.ad M.root), tr4.dict, rfl, by rw [valV_kvs, hr4]; rfl, ?_⟩
  obtain ⟨tr5, f5⟩ := tr4.pop (n := M.root)
  refine k _ ?_ (f1.trans (((FrT.of s2).trans f3).trans (f4.trans f5)))
  have et : takeRoot M = { M.upd c toRoot with root := c, nodes := (M.upd c toRoot).nodes.filter fun x => x.number != M.root } := by
    unfold takeRoot
    rw [hr0]
    show (match r.children.head? with | some c => _ | none => M) = _
    rw [hc]
    rfl
  rw [et]
  exact tr5
end
/-! ### forgetting -/
section
variable {P : Program} {w : World} {K : PySem.W.Frag} {mg : Str → Option Value} {base : Heap} {C : Cl}
/-- a list of the def's own, written while the tree changes: it bears a label meanwhile -/
def Gh.lab (G : Gh) (p : Addr) (lb : Lbl) : Gh := { G with L := fun b => if b = p then some lb else G.L b }
theorem lab_T (G : Gh) (p : Addr) {lb : Lbl} (hb : isT (some lb) = false) (h : G.L p = none) (b : Addr) : isT ((G.lab p lb).L b) = isT (G.L b) := by
  show isT (if b = p then _ else _) = _
  by_cases e : b = p
  · rw [if_pos e, e, h, hb]
    rfl
  · rw [if_neg e]
theorem FrT.unlab {G : Gh} {H H' : Hp} {p : Addr} (h : G.L p = none) (f : FrT (G.lab p .grp) H H') : FrT G H H' := fun b o e l => f b o e (by rw [lab_T G p rfl h]; exact l)
theorem FrT.poke {G : Gh} {H H' : Hp} {p : Addr} {o : HO} (f : FrT G H H') (hp : H p = none) : FrT G H (upd H' p o) := fun b u e l => by
  rw [upd_ne (ne_of_none e hp)]
  exact f b u e l
theorem TreeAt.lab {G : Gh} {H : Hp} {M : Tr} {p : Addr} (tr : TreeAt C G H M) (hp : H p = none) (o : HO) (lb : Lbl) : TreeAt C (G.lab p lb) (upd H p o) M := by
  have ne : ∀ b u, H b = some u → (G.lab p lb).L b = G.L b := fun b u e => if_neg (ne_of_none e hp)
  have s := Same.new (o := o) hp
  have f0 : Frm G H (G.lab p lb) (upd H p o) := fun b u e l => ⟨s b u e, (ne b u e).trans l⟩
  obtain ⟨dx, eo⟩ := tr.obj
  refine ⟨⟨dx, s _ _ eo⟩, (ne _ _ eo).trans tr.lt, s _ _ tr.dict, (ne _ _ tr.dict).trans tr.ld, fun x hx => ?_, fun b hb => ?_⟩
  · obtain ⟨dx, ca, ta, ka, as, a1, a2, ⟨a3, a4, a5⟩, a6, a7, a8⟩ := (tr.sts x hx).ex
    exact ⟨dx, ca, ta, ka, as, s _ _ a1, (ne _ _ a1).trans a2, ⟨s _ _ a3, (ne _ _ a3).trans a4, a5.frm f0⟩, a6.frm f0, s _ _ a7, (ne _ _ a7).trans a8⟩
  · have nb : b ≠ p := fun e => by rw [e, upd_same] at hb; cases hb
    show (if b = p then _ else _) = _
    rw [if_neg nb]
    exact tr.lok b (upd_none hb)
theorem TreeAt.poke {G : Gh} {H : Hp} {M : Tr} {p : Addr} (tr : TreeAt C G H M) {lb : Lbl} (hl : G.L p = some lb) (hb : isT (some lb) = false) (o : HO) : TreeAt C G (upd H p o) M := by
  have ho : ∀ b u, H b = some u → G.L b ≠ some lb → upd H p o b = some u := fun b u e z => by
    rw [upd_ne (ne_lab (by rw [hl]; exact z))]
    exact e
  have f0 : Frm G H G (upd H p o) := fun b u e l => ⟨ho b u e (by rw [l]; simp), l⟩
  have nt : ∀ l, isT (some l) = true → some l ≠ some lb := fun l h e => by rw [← e, h] at hb; cases hb
  obtain ⟨dx, eo⟩ := tr.obj
  refine ⟨⟨dx, ho _ _ eo (by rw [tr.lt]; exact nt _ rfl)⟩, tr.lt, ho _ _ tr.dict (by rw [tr.ld]; exact nt _ rfl), tr.ld, fun x hx => ?_, fun b hb => tr.lok b (upd_none hb)⟩
  obtain ⟨dx, ca, ta, ka, as, a1, a2, ⟨a3, a4, a5⟩, a6, a7, a8⟩ := (tr.sts x hx).ex
  exact ⟨dx, ca, ta, ka, as, ho _ _ a1 (by rw [a2]; exact nt _ rfl), a2, ⟨(f0 _ _ a3 a4).1, a4, a5.frm f0⟩, a6.frm f0, ho _ _ a7 (by rw [a8]; exact nt _ rfl), a8⟩
theorem TreeAt.unlab {G : Gh} {H : Hp} {M : Tr} {p : Addr} (tr : TreeAt C (G.lab p .grp) H M) : TreeAt C { G with L := fun b => if b = p then none else G.L b } H M := by
  have f1 : ∀ b l, (G.lab p .grp).L b = some l → l ≠ .grp → (if b = p then none else G.L b) = some l := fun b l e z => by
    have e' : (if b = p then some Lbl.grp else G.L b) = some l := e
    by_cases h : b = p
    · rw [if_pos h] at e'
      exact absurd (Option.some.inj e').symm z
    · rw [if_neg h] at e' ⊢
      exact e'
  have f2 : ∀ b, (G.lab p .grp).L b = none → (if b = p then none else G.L b) = none := fun b e => by
    have e' : (if b = p then some Lbl.grp else G.L b) = none := e
    by_cases h : b = p
    · rw [if_pos h]
    · rw [if_neg h] at e' ⊢
      exact e'
  have f0 : Frm (G.lab p .grp) H { G with L := fun b => if b = p then none else G.L b } H := fun b u e l => ⟨e, f2 b l⟩
  refine ⟨tr.obj, f1 _ _ tr.lt (by simp), tr.dict, f1 _ _ tr.ld (by simp), fun x hx => ?_, fun b hb => f2 b (tr.lok b hb)⟩
  obtain ⟨dx, ca, ta, ka, as, a1, a2, ⟨a3, a4, a5⟩, a6, a7, a8⟩ := (tr.sts x hx).ex
  exact ⟨dx, ca, ta, ka, as, a1, f1 _ _ a2 (by simp), ⟨a3, f2 _ a4, a5.frm f0⟩, a6.frm f0, a7, f1 _ _ a8 (by simp)⟩
theorem unlab_eq (G : Gh) (p : Addr) (h : G.L p = none) : ({ G with L := fun b => if b = p then none else G.L b } : Gh) = G := by
  obtain ⟨L, a, t, d, s⟩ := G
  have e : (fun b => if b = p then none else L b) = L := by
    funext b
    by_cases e : b = p
    · rw [if_pos e, e]
      exact h.symm
    · rw [if_neg e]
  show Gh.mk (fun b => if b = p then none else L b) a t d s = _
  rw [e]
theorem TreeAt.own {G : Gh} {H : Hp} {M : Tr} {p : Addr} (tr : TreeAt C G H M) (hp : H p = none) (o : HO) : ∃ G1 : Gh, G1.t = G.t ∧ G1.L p = some .grp ∧ TreeAt C G1 (upd H p o) M ∧ (∀ H' M', TreeAt C G1 H' M' → TreeAt C G H' M') ∧ ∀ H' H'', FrT G1 H' H'' → FrT G H' H'' := by
  have lg := tr.lok p hp
  refine ⟨G.lab p .grp, rfl, if_pos rfl, tr.lab hp o .grp, fun H' M' t => ?_, fun H' H'' f => f.unlab lg⟩
  have := t.unlab
  rw [unlab_eq G p lg] at this
  exact this
def sp_may_go (_K : PySem.W.Frag) (C : Cl) : Sp := fun vs H Q _ => vs.length = 2 ∧ ∃ (G : Gh) (M : Tr) (n : Nat) (x : Nd), vs = [.ref G.t, iV n] ∧ TreeAt C G H M ∧ M.find n = some x ∧ ∀ H', Same H H' → Q (.bl (mayGo M x)) H'
theorem not_dec_ne (a b : Nat) : (!decide ((a : Int) = (b : Int))) = (a != b) := by
  rw [Bool.eq_iff_iff]
  simp
  omega
theorem vInts_emp (l : List Nat) : (vInts l).isEmpty = l.isEmpty := by
  cases l <;> rfl
abbrev s_may_go : Stmt := topS 6
theorem sc_may_go : FnScope ["tree", "number", "state"] ["tree", "number"] (defScope s_may_go) := ⟨rfl, rfl, rfl, by decide +kernel, rfl, by decide +kernel, by decide +kernel⟩
theorem b_may_go : Bind "may_go" "may_go" s_may_go ["tree", "number"] := fun _ _ _ _ _ _ us hl => match us, hl with | [_, _], _ => rfl
theorem ok_may_go (T : Txt K mg C) (D : DefF K mg "may_go" s_may_go) (c_Tree_state : CalM P w K mg base 1 C.tr "state" ["self", "number"] (sp_Tree_state K C)) : CalF P w K mg base 2 "may_go" ["tree", "number"] (sp_may_go K C) := by
  refine D.cal b_may_go fun f fd F => F.ok sc_may_go (fun vs H Q E h => h.1) (fun cdv A outer s H vs Q E hr h => ?_)
  have hu := hu_of hr
  refine ⟨_, (pss_cons (ps_set (i := 2) sc_may_go.nd rfl (Or.inl rfl) (pm c_Tree_state T.cTr hr (by decide) (pv 0) (pa_cons (pv 1) pa_nil)))
        (pss_one (ps_ret (pe_and (pe_cmpR (op_eqE hr.units) (pe_fld (pv 2) rfl) (pe_lst pa_nil) (nomark _)) (pe_and (pe_not (pe_fld (pv 2) rfl)) (pe_and (pe_cmpR op_ne (pv 1) (pe_fld (pv 0) rfl) (nomark _)) (pe_one (pe_cmpR op_ne (pv 1) (pe_fld (pv 0) rfl) (nomark _))))))))), ?_⟩
  obtain ⟨_, G, M, n, x, rfl, tr, hx, k⟩ := h
  have en := (mem_of_find hx).2
  repeat walk_at "ub1"
  refine mtT tr ?_
  repeat walk_at "ub1"
  refine ⟨rfl, G, M, n, x, rfl, tr, hx, ?_⟩
  repeat walk_at "ub1"
  refine rdS_children T tr hx fun ka h1 _ => ?_
  repeat walk_at "ub1"
  refine ⟨Nat.zero_le _, fun p hp => ?_⟩
  have s1 := Same.new (o := .lst []) hp
  have tr1 := tr.same s1
  refine ⟨ka, p, _, rfl, rfl, SqL.of (s1 _ _ h1), SqL.of upd_same, ?_⟩
  have k1 := k _ s1
  unfold mayGo at k1
  rw [en] at k1
  rw [vInts_emp]
  repeat walk_at "ub1"
  refine ite_b (fun c1 => ?_) (fun c1 => ?_)
  · rw [c1] at k1
    repeat walk_at "ub1"
    refine rdS_kept T tr1 hx ?_
    repeat walk_at "ub1"
    refine ite_nb (fun c2 => ?_) (fun c2 => ?_)
    · rw [c2] at k1
      repeat walk_at "ub1"
      refine rdT_root T tr1 ?_
      repeat walk_at "ub1"
      rw [not_dec_ne]
      refine ite_b (fun c3 => ?_) (fun c3 => ?_)
      · rw [c3] at k1
        repeat walk_at "ub1"
        refine rdT_current T tr1 ?_
        repeat walk_at "ub1"
        rw [not_dec_ne]
        exact k1
      · rw [c3] at k1
        exact k1
    · rw [c2] at k1
      exact k1
  · rw [c1] at k1
    exact k1
def sp_leaves_to_go (_K : PySem.W.Frag) (C : Cl) : Sp := fun vs H Q _ => vs.length = 1 ∧ ∃ (G : Gh) (M : Tr), vs = [.ref G.t] ∧ TreeAt C G H M ∧ WF M ∧ Sm M ∧ ∀ H' p, Same H H' → H p = none → H' p = some (.lst (vInts (leavesToGo M))) → Q (.ref p) H'
theorem nums_at {M : Tr} {i : Nat} {n : Nat} (h : M.nums[i]? = some n) : ∃ x, M.nodes[i]? = some x ∧ x.number = n := by
  unfold Tr.nums at h
  rw [List.getElem?_map] at h
  cases e : M.nodes[i]? with
  | none => rw [e] at h; cases h
  | some x => rw [e] at h; exact ⟨x, rfl, Option.some.inj h⟩
theorem len_filter_take {A : Type} (l : List A) (i : Nat) (p : A → Bool) : ((l.take i).filter p).length ≤ l.length :=
  Nat.le_trans (List.length_filter_le _ _) (by rw [List.length_take]; omega)
theorem small_nodes {M : Tr} (W : WF M) (sm : Sm M) : M.nodes.length ≤ 1000 := Nat.le_trans (Nat.le_trans (nodes_len W) sm) (by decide)
/-- the numbers of the states that a test lets through, gathered by a comprehension -/
def sel (M : Tr) (i : Nat) (q : Nd → Bool) : List Nat := ((M.nodes.take i).filter q).map fun x => x.number
theorem sel_more {M : Tr} {i : Nat} {x : Nd} (q : Nd → Bool) (h : M.nodes[i]? = some x) : sel M (i + 1) q = sel M i q ++ (if q x = true then [x.number] else []) := by
  unfold sel
  rw [take_more h, List.filter_append, List.map_append]
  congr 1
  by_cases c : q x = true
  · rw [if_pos c, List.filter_cons_of_pos c]
    rfl
  · rw [if_neg c, List.filter_cons_of_neg c]
    rfl
theorem sel_end (M : Tr) (q : Nd → Bool) : sel M M.nums.length q = (M.nodes.filter q).map fun x => x.number := by
  unfold sel
  rw [nums_len, List.take_length]
theorem sel_len {M : Tr} (W : WF M) (sm : Sm M) (i : Nat) (q : Nd → Bool) : (vInts (sel M i q)).length < sizeLine := by
  rw [vInts_len]
  unfold sel
  rw [List.length_map]
  have := len_filter_take M.nodes i q
  have := small_nodes W sm
  exact bigl (by omega)
abbrev s_leaves_to_go : Stmt := topS 7
theorem sc_leaves_to_go : FnScope ["tree", "number"] ["tree"] (defScope s_leaves_to_go) := ⟨rfl, rfl, rfl, by decide +kernel, rfl, by decide +kernel, by decide +kernel⟩
theorem b_leaves_to_go : Bind "leaves_to_go" "leaves_to_go" s_leaves_to_go ["tree"] := fun _ _ _ _ _ _ us hl => match us, hl with | [_], _ => rfl
theorem ok_leaves_to_go (T : Txt K mg C) (D : DefF K mg "leaves_to_go" s_leaves_to_go) (c_may_go : CalF P w K mg base 2 "may_go" ["tree", "number"] (sp_may_go K C)) (c_Tree_numbers : CalM P w K mg base 1 C.tr "numbers" ["self"] (sp_Tree_numbers K C)) : CalF P w K mg base 3 "leaves_to_go" ["tree"] (sp_leaves_to_go K C) := by
  refine D.cal b_leaves_to_go fun f fd F => F.ok sc_leaves_to_go (fun vs H Q E h => h.1) (fun cdv A outer s H vs Q E hr h => ?_)
  have hu := hu_of hr
  refine ⟨_, (pss_one (ps_ret (pe_lc (own := [("number", 1)]) (g := gName 1) rfl sc_leaves_to_go.nd (pi_list (pm0 c_Tree_numbers T.cTr hr (by decide) (pv 0))) (blkOk_by (own := [("number", 1)]) (N := ["tree", "number"]) (sc := defScope s_leaves_to_go) (by decide +kernel)) (fun _ _ _ _ _ => pg_name (i := 1) sc_leaves_to_go.nd rfl (Or.inl rfl)) (fun _ _ _ _ _ => by exact pts_one (pt_val (pf c_may_go hr (by decide) (by rfl) (pa_cons (pv 0) (pa_cons (pv 1) pa_nil))))) (fun _ _ _ _ _ => by exact (pv 1))))), ?_⟩
  obtain ⟨_, G, M, rfl, tr, W, sm, k⟩ := h
  repeat walk_at "ub1"
  refine mtT tr ?_
  repeat walk_at "ub1"
  refine ⟨rfl, G, M, rfl, tr, W, fun H1 p1 s1 n1 e1 => ?_⟩
  refine ⟨p1, rfl, ⟨_, SqL.of e1⟩, fun D hD => ?_⟩
  have s2 := Same.new (o := .lst []) hD
  refine lc_list (K := K) (a := p1) (xs := vInts M.nums) (fun i H' => Same H1 H' ∧ H' D = some (.lst (vInts (sel M i (mayGo M))))) ⟨s2, upd_same⟩ (fun i H' _ ⟨s, _⟩ => SqL.of (s _ _ e1)) ?_ ?_
  · rintro i z H' hi ⟨s, hd⟩
    obtain ⟨n, hn, rfl⟩ := vInts_at hi
    obtain ⟨x, hx, rfl⟩ := nums_at hn
    have hf := W.find (List.mem_of_getElem? hx)
    refine ⟨rfl, ?_⟩
    repeat walk_at "ub1"
    refine ⟨rfl, G, M, x.number, x, rfl, (tr.same s1).same s, hf, fun H2 s3 => ?_⟩
    repeat walk_at "ub1"
    have sa := s.trans s3
    refine ite_b (fun c => ?_) (fun c => ?_)
    · repeat walk_at "ub1"
      refine ⟨_, s3 _ _ hd, sel_len W sm _ _, fun b o e => ?_, ?_⟩
      · rw [upd_ne (ne_of_none e hD)]
        exact sa b o e
      · rw [upd_same, sel_more _ hx, if_pos c, vInts_app]
        rfl
    · refine ⟨sa, ?_⟩
      rw [sel_more _ hx, if_neg (by rw [c]; exact Bool.false_ne_true), List.append_nil]
      exact s3 _ _ hd
  · rintro H' ⟨s, hd⟩
    rw [vInts_len, sel_end] at hd
    exact k _ D (s1.trans s) (s1.free hD) hd
def sp_may_root_go (_K : PySem.W.Frag) (C : Cl) : Sp := fun vs H Q _ => vs.length = 1 ∧ ∃ (G : Gh) (M : Tr), vs = [.ref G.t] ∧ TreeAt C G H M ∧ WF M ∧ Q (.bl (mayRootGo M)) H
theorem dec_len1 (n : Nat) : decide ((n : Int) = 1) = (n == 1) := by
  rw [Bool.eq_iff_iff]
  simp
  omega
abbrev s_may_root_go : Stmt := topS 8
theorem sc_may_root_go : FnScope ["tree", "state"] ["tree"] (defScope s_may_root_go) := ⟨rfl, rfl, rfl, by decide +kernel, rfl, by decide +kernel, by decide +kernel⟩
theorem b_may_root_go : Bind "may_root_go" "may_root_go" s_may_root_go ["tree"] := fun _ _ _ _ _ _ us hl => match us, hl with | [_], _ => rfl
theorem ok_may_root_go (T : Txt K mg C) (D : DefF K mg "may_root_go" s_may_root_go) (c_Tree_state : CalM P w K mg base 1 C.tr "state" ["self", "number"] (sp_Tree_state K C)) : CalF P w K mg base 2 "may_root_go" ["tree"] (sp_may_root_go K C) := by
  refine D.cal b_may_root_go fun f fd F => F.ok sc_may_root_go (fun vs H Q E h => h.1) (fun cdv A outer s H vs Q E hr h => ?_)
  have hu := hu_of hr
  refine ⟨_, (pss_cons (ps_set (i := 1) sc_may_root_go.nd rfl (Or.inl rfl) (pm c_Tree_state T.cTr hr (by decide) (pv 0) (pa_cons (pe_fld (pv 0) rfl) pa_nil)))
        (pss_one (ps_ret (pe_and (pe_cmpR op_ne (pe_fld (pv 0) rfl) (pe_fld (pv 0) rfl) (nomark _)) (pe_and (pe_not (pe_fld (pv 1) rfl)) (pe_one (pe_cmpR op_eq (pe_callB call_len_seq (by rfl) T.len PySem.boot_len (pa_cons (pe_fld (pv 1) rfl) pa_nil)) pe_int (nomark _)))))))), ?_⟩
  obtain ⟨_, G, M, rfl, tr, W, k⟩ := h
  obtain ⟨r, hr0, _⟩ := W.root
  have ek : mayRootGo M = (M.root != M.current && (!r.kept && r.children.length == 1)) := by
    unfold mayRootGo
    rw [hr0]
  rw [ek] at k
  repeat walk_at "ub1"
  refine mtT tr ?_
  repeat walk_at "ub1"
  refine rdT_root T tr ?_
  repeat walk_at "ub1"
  refine ⟨rfl, G, M, M.root, r, rfl, tr, hr0, ?_⟩
  repeat walk_at "ub1"
  refine rdT_root T tr ?_
  repeat walk_at "ub1"
  refine rdT_current T tr ?_
  repeat walk_at "ub1"
  rw [not_dec_ne]
  refine ite_b (fun c1 => ?_) (fun c1 => ?_)
  · rw [c1] at k
    repeat walk_at "ub1"
    refine rdS_kept T tr hr0 ?_
    repeat walk_at "ub1"
    refine ite_nb (fun c2 => ?_) (fun c2 => ?_)
    · rw [c2] at k
      repeat walk_at "ub1"
      refine rdS_children T tr hr0 fun ka h1 _ => ?_
      repeat walk_at "ub1"
      refine ⟨ka, _, rfl, .inl (SqL.of h1), ?_⟩
      repeat walk_at "ub1"
      rw [vInts_len, dec_len1]
      exact k
    · rw [c2] at k
      exact k
  · rw [c1] at k
    exact k
theorem coming_takeAway (M : Tr) (n : Nat) : (takeAway M n).coming = M.coming := by
  unfold takeAway
  cases (M.find n).bind fun x => x.parent <;> rfl
theorem coming_takeRoot (M : Tr) : (takeRoot M).coming = M.coming := by
  unfold takeRoot
  cases (M.find M.root).bind fun x => x.children.head? <;> rfl
theorem leaf_first {M : Tr} (W : WF M) {n : Nat} {l : List Nat} (h : leavesToGo M = n :: l) : ∃ x, M.find n = some x ∧ x.children = [] ∧ n ≠ M.root ∧ n ≠ M.current := by
  have hm : n ∈ leavesToGo M := by rw [h]; exact List.mem_cons_self ..
  unfold leavesToGo at hm
  obtain ⟨x, hx, rfl⟩ := List.mem_map.mp hm
  obtain ⟨h1, h2⟩ := List.mem_filter.mp hx
  unfold mayGo at h2
  simp only [Bool.and_eq_true, bne_iff_ne, List.isEmpty_iff] at h2
  exact ⟨x, W.find h1, h2.1, h2.2.2.1, h2.2.2.2⟩
theorem woLeaves_stop {f : Nat} {M : Tr} {n : Nat} {g : List Nat} (h : M.nodes.length ≤ n ∨ leavesToGo M = []) : woLeaves f M n g = (M, g) := by
  cases f with
  | zero => rfl
  | succ f =>
    unfold woLeaves
    by_cases c : M.nodes.length ≤ n
    · rw [if_pos c]
    · rw [if_neg c]
      rcases h with h | h
      · exact absurd h c
      · rw [h]
theorem woLeaves_go {f : Nat} {M : Tr} {n k : Nat} {g l : List Nat} (h1 : ¬ M.nodes.length ≤ n) (h2 : leavesToGo M = k :: l) : woLeaves (f + 1) M n g = woLeaves f (takeAway M k) n (g ++ [k]) := by
  conv => lhs; unfold woLeaves
  rw [if_neg h1, h2]
theorem woLeaves_keeps : ∀ (f : Nat) {M : Tr} (W : WF M) (n : Nat) (g : List Nat), WF (woLeaves f M n g).1 ∧ (woLeaves f M n g).1.coming = M.coming
  | 0, M, W, n, g => ⟨W, rfl⟩
  | f + 1, M, W, n, g => by
    by_cases c : M.nodes.length ≤ n
    · rw [woLeaves_stop (.inl c)]
      exact ⟨W, rfl⟩
    · cases e : leavesToGo M with
      | nil =>
        rw [woLeaves_stop (.inr e)]
        exact ⟨W, rfl⟩
      | cons k l =>
        rw [woLeaves_go c e]
        obtain ⟨x, hx, h1, h2, h3⟩ := leaf_first W e
        obtain ⟨a, b⟩ := woLeaves_keeps f (wf_takeAway W hx h2 h3 h1) n (g ++ [k])
        exact ⟨a, b.trans (coming_takeAway M k)⟩
def sp_without_leaves (_K : PySem.W.Frag) (C : Cl) : Sp := fun vs H Q _ => vs.length = 2 ∧ ∃ (G : Gh) (M : Tr) (n : Nat), vs = [.ref G.t, iV n] ∧ TreeAt C G H M ∧ WF M ∧ Sm M ∧
  ∀ H' p, TreeAt C G H' (woLeaves M.nodes.length M n []).1 → FrT G H H' → H p = none → H' p = some (.lst (vInts (woLeaves M.nodes.length M n []).2)) → Q (.ref p) H'
abbrev s_without_leaves : Stmt := topS 9
theorem sc_without_leaves : FnScope ["tree", "limit", "gone", "some"] ["tree", "limit"] (defScope s_without_leaves) := ⟨rfl, rfl, rfl, by decide +kernel, rfl, by decide +kernel, by decide +kernel⟩
theorem b_without_leaves : Bind "without_leaves" "without_leaves" s_without_leaves ["tree", "limit"] := fun _ _ _ _ _ _ us hl => match us, hl with | [_, _], _ => rfl
theorem ok_without_leaves (T : Txt K mg C) (D : DefF K mg "without_leaves" s_without_leaves) (c_leaves_to_go : CalF P w K mg base 3 "leaves_to_go" ["tree"] (sp_leaves_to_go K C)) (c_Tree_take_away : CalM P w K mg base 1 C.tr "take_away" ["self", "number"] (sp_Tree_take_away K C)) : CalF P w K mg base 4 "without_leaves" ["tree", "limit"] (sp_without_leaves K C) := by
  refine D.cal b_without_leaves fun f fd F => F.ok sc_without_leaves (fun vs H Q E h => h.1) (fun cdv A outer s H vs Q E hr h => ?_)
  have hu := hu_of hr
  refine ⟨_, (pss_cons (ps_set (i := 2) sc_without_leaves.nd rfl (Or.inl rfl) (pe_lst pa_nil))
        (pss_cons (ps_set (i := 3) sc_without_leaves.nd rfl (Or.inl rfl) (pf c_leaves_to_go hr (by decide) (by rfl) (pa_cons (pv 0) pa_nil)))
        (pss_cons (ps_while PassesOwn.never (PW.pt (pw_and (pt_cmpR op_gt (pe_callB call_lenD (by rfl) T.len PySem.boot_len (pa_cons (pe_fld (pv 0) rfl) pa_nil)) (pv 1) (nomark _)) (pw_and1 (pt_cmpR (op_neE hr.units) (pv 3) (pe_lst pa_nil) (nomark _))))) (pss_cons (ps_expr (pm c_Tree_take_away T.cTr hr (by decide) (pv 0) (pa_cons (pe_ix ix_list (pv 3) pe_int (fun _ _ => rfl)) pa_nil)))
        (pss_cons (ps_expr (pe_bm PySem.F.plainAttrs_list PySem.F.slot_list_append PySem.F.type_list_append mt_append (pv 2) (pa_cons (pe_ix ix_list (pv 3) pe_int (fun _ _ => rfl)) pa_nil)))
        (pss_one (ps_set (i := 3) sc_without_leaves.nd rfl (Or.inl rfl) (pf c_leaves_to_go hr (by decide) (by rfl) (pa_cons (pv 0) pa_nil)))))))
        (pss_one (ps_ret (pv 2)))))), ?_⟩
  obtain ⟨_, G, M, n, rfl, tr, W, sm, k⟩ := h
  repeat walk_at "ub1"
  refine ⟨Nat.zero_le _, fun pg hg => ?_⟩
  have s1 := Same.new (o := .lst []) hg
  obtain ⟨G1, et, lG, tr1, unl, unf⟩ := tr.own hg (.lst [])
  rw [← et]
  repeat walk_at "ub1"
  refine ⟨rfl, G1, M, rfl, tr1, W, sm, fun H2 p2 s2 n2 e2 => ?_⟩
  have tr2 := tr1.same s2
  have sml := small_nodes W sm
  repeat walk_at "ub1"
  refine ⟨fun m σ H' => ∃ (M' : Tr) (g : List Nat) (a : Addr), m = M'.nodes.length ∧ σ = [some (.ref G1.t), some (iV n), some (.ref pg), some (.ref a)] ∧ TreeAt C G1 H' M' ∧ WF M' ∧ M'.coming = M.coming ∧ FrT G H H' ∧ H' pg = some (.lst (vInts g)) ∧ H' a = some (.lst (vInts (leavesToGo M'))) ∧ G1.L a = none ∧
    g.length + M'.nodes.length = M.nodes.length ∧ woLeaves M'.nodes.length M' n g = woLeaves M.nodes.length M n [], ⟨_, M, [], p2, rfl, rfl, tr2, W, rfl, FrT.of (s1.trans s2), s2 _ _ upd_same, e2, tr1.lok _ n2, by simp, rfl⟩, ?_⟩
  rintro m σ H' ⟨M', g, a, rfl, rfl, tr', W', cm, f', hg', ha, la, hl, e⟩
  have sm' : Sm M' := by unfold Sm; rw [cm]; exact sm
  repeat walk_at "ub1"
  refine rdT_states T tr' ?_
  repeat walk_at "ub1"
  refine ⟨G1.d, _, rfl, tr'.dict, ?_⟩
  repeat walk_at "ub1"
  rw [kvs_len]
  refine ite_dec (fun c1 => ?_) (fun c1 => ?_)
  · repeat walk_at "ub1"
    refine ⟨Nat.zero_le _, fun pe he => ?_⟩
    have s3 := Same.new (o := .lst []) he
    refine ⟨a, pe, _, rfl, rfl, SqL.of (s3 _ _ ha), SqL.of upd_same, ?_⟩
    have tr3 := tr'.same s3
    have hg3 := s3 _ _ hg'
    have ha3 := s3 _ _ ha
    generalize upd H' pe (HO.lst []) = H3 at *
    rw [vInts_emp]
    repeat walk_at "ub1"
    cases el : leavesToGo M' with
    | nil =>
      refine iteF ?_
      repeat walk_at "ub1"
      rw [woLeaves_stop (.inr el)] at e
      rw [← e] at k
      exact k _ pg (unl _ _ tr3) (f'.trans (FrT.of s3)) hg hg3
    | cons j l =>
      obtain ⟨x, hx, leaf, nr, nc⟩ := leaf_first W' el
      obtain ⟨m, ex⟩ := mem_of_find hx
      obtain ⟨q, y, hq, _⟩ := W'.up x m (by rw [ex]; exact nr)
      have hlen := takeAway_len W' hx hq
      rw [el] at ha3
      refine iteT ?_
      refine ⟨_, fun σ' H' n => n, ?_⟩
      repeat walk_at "ub1"
      refine mtT tr3 ?_
      repeat walk_at "ub1"
      refine ⟨a, _, _, iV j, rfl, rfl, SqL.of ha3, at_of (j := 0) rfl rfl, ?_⟩
      repeat walk_at "ub1"
      refine ⟨rfl, G1, M', j, x, rfl, tr3, W', hx, nr, fun H4 tr4 f4 => ?_⟩
      have hg4 := f4 _ _ hg3 (by rw [lG]; rfl)
      have ha4 := f4 _ _ ha3 (by rw [la]; rfl)
      repeat walk_at "ub1"
      refine ⟨.inl ⟨rfl, _, SqL.of hg4⟩, ?_⟩
      repeat walk_at "ub1"
      refine ⟨a, _, _, iV j, rfl, rfl, SqL.of ha4, at_of (j := 0) rfl rfl, ?_⟩
      repeat walk_at "ub1"
      refine ⟨pg, _, iV j, rfl, rfl, hg4, bigl (by rw [vInts_len]; omega), ?_⟩
      have tr5 := tr4.poke lG rfl (.lst (vInts g ++ [iV j]))
      have W5 := wf_takeAway W' hx nr nc leaf
      have sm5 : Sm (takeAway M' j) := by unfold Sm; rw [coming_takeAway]; exact sm'
      have f5 : FrT G H (upd H4 pg (.lst (vInts g ++ [iV j]))) := (f'.trans ((FrT.of s3).trans (unf _ _ f4))).poke hg
      have hg5 : upd H4 pg (.lst (vInts g ++ [iV j])) pg = some (.lst (vInts (g ++ [j]))) := by
        rw [upd_same, vInts_app]
        rfl
      generalize upd H4 pg (HO.lst (vInts g ++ [iV j])) = H5 at *
      repeat walk_at "ub1"
      refine ⟨rfl, G1, takeAway M' j, rfl, tr5, W5, sm5, fun H6 p6 s6 n6 e6 => ?_⟩
      refine ⟨_, by omega, takeAway M' j, g ++ [j], p6, rfl, rfl, tr5.same s6, W5, (coming_takeAway M' j).trans cm, f5.trans (FrT.of s6), s6 _ _ hg5, e6, tr5.lok _ n6, by rw [List.length_append, List.length_singleton]; omega, ?_⟩
      rw [← e, ← hlen, woLeaves_go (by omega) el]
  · repeat walk_at "ub1"
    rw [woLeaves_stop (.inl (by omega))] at e
    rw [← e] at k
    exact k _ pg (unl _ _ tr') f' hg hg'
theorem root_go {M : Tr} (W : WF M) (h : mayRootGo M = true) : ∃ r c, M.find M.root = some r ∧ r.children = [c] ∧ M.root ≠ M.current := by
  obtain ⟨r, hr0, _⟩ := W.root
  unfold mayRootGo at h
  rw [hr0] at h
  simp only [Bool.and_eq_true, bne_iff_ne, beq_iff_eq] at h
  obtain ⟨c, hc⟩ := List.length_eq_one_iff.mp h.2.2
  exact ⟨r, c, hr0, hc, h.1⟩
theorem woRoots_stop {f : Nat} {M : Tr} {n : Nat} {g : List Nat} (h : M.nodes.length ≤ n ∨ mayRootGo M = false) : woRoots f M n g = (M, g) := by
  cases f with
  | zero => rfl
  | succ f =>
    unfold woRoots
    by_cases c : M.nodes.length ≤ n
    · rw [if_pos c]
    · rw [if_neg c]
      rcases h with h | h
      · exact absurd h c
      · rw [if_neg (by rw [h]; exact Bool.false_ne_true)]
theorem woRoots_go {f : Nat} {M : Tr} {n : Nat} {g : List Nat} (h1 : ¬ M.nodes.length ≤ n) (h2 : mayRootGo M = true) : woRoots (f + 1) M n g = woRoots f (takeRoot M) n (g ++ [M.root]) := by
  conv => lhs; unfold woRoots
  rw [if_neg h1, if_pos h2]
theorem woRoots_keeps : ∀ (f : Nat) {M : Tr} (W : WF M) (n : Nat) (g : List Nat), WF (woRoots f M n g).1 ∧ (woRoots f M n g).1.coming = M.coming
  | 0, M, W, n, g => ⟨W, rfl⟩
  | f + 1, M, W, n, g => by
    by_cases c : M.nodes.length ≤ n
    · rw [woRoots_stop (.inl c)]
      exact ⟨W, rfl⟩
    · cases e : mayRootGo M with
      | false =>
        rw [woRoots_stop (.inr e)]
        exact ⟨W, rfl⟩
      | true =>
        rw [woRoots_go c e]
        obtain ⟨r, k, h1, h2, h3⟩ := root_go W e
        obtain ⟨a, b⟩ := woRoots_keeps f (wf_takeRoot W h1 h2 h3) n (g ++ [M.root])
        exact ⟨a, b.trans (coming_takeRoot M)⟩
theorem woLeaves_len : ∀ (f : Nat) {M : Tr} (W : WF M) (n : Nat) (g : List Nat), (woLeaves f M n g).2.length + (woLeaves f M n g).1.nodes.length = g.length + M.nodes.length
  | 0, M, W, n, g => rfl
  | f + 1, M, W, n, g => by
    by_cases c : M.nodes.length ≤ n
    · rw [woLeaves_stop (.inl c)]
    · cases e : leavesToGo M with
      | nil => rw [woLeaves_stop (.inr e)]
      | cons k l =>
        rw [woLeaves_go c e]
        obtain ⟨x, hx, h1, h2, h3⟩ := leaf_first W e
        obtain ⟨m, ex⟩ := mem_of_find hx
        obtain ⟨q, y, hq, _⟩ := W.up x m (by rw [ex]; exact h2)
        have := takeAway_len W hx hq
        rw [woLeaves_len f (wf_takeAway W hx h2 h3 h1) n (g ++ [k]), List.length_append, List.length_singleton]
        omega
theorem woRoots_len : ∀ (f : Nat) {M : Tr} (W : WF M) (n : Nat) (g : List Nat), (woRoots f M n g).2.length + (woRoots f M n g).1.nodes.length = g.length + M.nodes.length
  | 0, M, W, n, g => rfl
  | f + 1, M, W, n, g => by
    by_cases c : M.nodes.length ≤ n
    · rw [woRoots_stop (.inl c)]
    · cases e : mayRootGo M with
      | false => rw [woRoots_stop (.inr e)]
      | true =>
        rw [woRoots_go c e]
        obtain ⟨r, k, h1, h2, h3⟩ := root_go W e
        have := takeRoot_len W h1 h2
        rw [woRoots_len f (wf_takeRoot W h1 h2 h3) n (g ++ [M.root]), List.length_append, List.length_singleton]
        omega
def sp_without_roots (_K : PySem.W.Frag) (C : Cl) : Sp := fun vs H Q _ => vs.length = 2 ∧ ∃ (G : Gh) (M : Tr) (n : Nat), vs = [.ref G.t, iV n] ∧ TreeAt C G H M ∧ WF M ∧ Sm M ∧
  ∀ H' p, TreeAt C G H' (woRoots M.nodes.length M n []).1 → FrT G H H' → H p = none → H' p = some (.lst (vInts (woRoots M.nodes.length M n []).2)) → Q (.ref p) H'
abbrev s_without_roots : Stmt := topS 10
theorem sc_without_roots : FnScope ["tree", "limit", "gone"] ["tree", "limit"] (defScope s_without_roots) := ⟨rfl, rfl, rfl, by decide +kernel, rfl, by decide +kernel, by decide +kernel⟩
theorem b_without_roots : Bind "without_roots" "without_roots" s_without_roots ["tree", "limit"] := fun _ _ _ _ _ _ us hl => match us, hl with | [_, _], _ => rfl
theorem ok_without_roots (T : Txt K mg C) (D : DefF K mg "without_roots" s_without_roots) (c_may_root_go : CalF P w K mg base 2 "may_root_go" ["tree"] (sp_may_root_go K C)) (c_Tree_take_root_away : CalM P w K mg base 1 C.tr "take_root_away" ["self"] (sp_Tree_take_root_away K C)) : CalF P w K mg base 3 "without_roots" ["tree", "limit"] (sp_without_roots K C) := by
  refine D.cal b_without_roots fun f fd F => F.ok sc_without_roots (fun vs H Q E h => h.1) (fun cdv A outer s H vs Q E hr h => ?_)
  have hu := hu_of hr
  refine ⟨_, (pss_cons (ps_set (i := 2) sc_without_roots.nd rfl (Or.inl rfl) (pe_lst pa_nil))
        (pss_cons (ps_while PassesOwn.never (PW.pt (pw_and (pt_cmpR op_gt (pe_callB call_lenD (by rfl) T.len PySem.boot_len (pa_cons (pe_fld (pv 0) rfl) pa_nil)) (pv 1) (nomark _)) (pw_and1 (pt_val (pf c_may_root_go hr (by decide) (by rfl) (pa_cons (pv 0) pa_nil)))))) (pss_cons (ps_expr (pe_bm PySem.F.plainAttrs_list PySem.F.slot_list_append PySem.F.type_list_append mt_append (pv 2) (pa_cons (pe_fld (pv 0) rfl) pa_nil)))
        (pss_one (ps_expr (pm0 c_Tree_take_root_away T.cTr hr (by decide) (pv 0))))))
        (pss_one (ps_ret (pv 2))))), ?_⟩
  obtain ⟨_, G, M, n, rfl, tr, W, sm, k⟩ := h
  repeat walk_at "ub1"
  refine ⟨Nat.zero_le _, fun pg hg => ?_⟩
  have s1 := Same.new (o := .lst []) hg
  obtain ⟨G1, et, lG, tr1, unl, unf⟩ := tr.own hg (.lst [])
  rw [← et]
  have sml := small_nodes W sm
  repeat walk_at "ub1"
  refine ⟨fun m σ H' => ∃ (M' : Tr) (g : List Nat), m = M'.nodes.length ∧ σ = [some (.ref G1.t), some (iV n), some (.ref pg)] ∧ TreeAt C G1 H' M' ∧ WF M' ∧ M'.coming = M.coming ∧ FrT G H H' ∧ H' pg = some (.lst (vInts g)) ∧
    g.length + M'.nodes.length = M.nodes.length ∧ woRoots M'.nodes.length M' n g = woRoots M.nodes.length M n [], ⟨_, M, [], rfl, rfl, tr1, W, rfl, FrT.of s1, upd_same, by simp, rfl⟩, ?_⟩
  rintro m σ H' ⟨M', g, rfl, rfl, tr', W', cm, f', hg', hl, e⟩
  have sm' : Sm M' := by unfold Sm; rw [cm]; exact sm
  repeat walk_at "ub1"
  refine rdT_states T tr' ?_
  repeat walk_at "ub1"
  refine ⟨G1.d, _, rfl, tr'.dict, ?_⟩
  repeat walk_at "ub1"
  rw [kvs_len]
  refine ite_dec (fun c1 => ?_) (fun c1 => ?_)
  · repeat walk_at "ub1"
    refine ⟨rfl, G1, M', rfl, tr', W', ?_⟩
    repeat walk_at "ub1"
    refine ite_b (fun c2 => ?_) (fun c2 => ?_)
    · obtain ⟨r, c, hr0, hc, nc⟩ := root_go W' c2
      have hlen := takeRoot_len W' hr0 hc
      refine ⟨_, fun σ' H' n => n, ?_⟩
      repeat walk_at "ub1"
      refine ⟨.inl ⟨rfl, _, SqL.of hg'⟩, ?_⟩
      repeat walk_at "ub1"
      refine rdT_root T tr' ?_
      repeat walk_at "ub1"
      refine ⟨pg, _, iV M'.root, rfl, rfl, hg', bigl (by rw [vInts_len]; omega), ?_⟩
      have tr5 := tr'.poke lG rfl (.lst (vInts g ++ [iV M'.root]))
      have f5 : FrT G H (upd H' pg (.lst (vInts g ++ [iV M'.root]))) := f'.poke hg
      have hg5 : upd H' pg (.lst (vInts g ++ [iV M'.root])) pg = some (.lst (vInts (g ++ [M'.root]))) := by
        rw [upd_same, vInts_app]
        rfl
      generalize upd H' pg (HO.lst (vInts g ++ [iV M'.root])) = H5 at *
      repeat walk_at "ub1"
      refine mtT tr5 ?_
      repeat walk_at "ub1"
      refine ⟨rfl, G1, M', r, c, rfl, tr5, W', hr0, hc, fun H6 tr6 f6 => ?_⟩
      refine ⟨_, by omega, takeRoot M', g ++ [M'.root], rfl, rfl, tr6, wf_takeRoot W' hr0 hc nc, (coming_takeRoot M').trans cm, f5.trans (unf _ _ f6), f6 _ _ hg5 (by rw [lG]; rfl), by rw [List.length_append, List.length_singleton]; omega, ?_⟩
      rw [← e, ← hlen, woRoots_go (by omega) c2]
    · repeat walk_at "ub1"
      rw [woRoots_stop (.inr c2)] at e
      rw [← e] at k
      exact k _ pg (unl _ _ tr') f' hg hg'
  · repeat walk_at "ub1"
    rw [woRoots_stop (.inl (by omega))] at e
    rw [← e] at k
    exact k _ pg (unl _ _ tr') f' hg hg'
def sp_forget (_K : PySem.W.Frag) (C : Cl) : Sp := fun vs H Q _ => vs.length = 2 ∧ ∃ (G : Gh) (M : Tr) (n : Nat), vs = [.ref G.t, iV n] ∧ TreeAt C G H M ∧ WF M ∧ Sm M ∧
  ∀ H' p, TreeAt C G H' (forgetT M n).1 → FrT G H H' → H p = none → H' p = some (.lst (vInts (forgetT M n).2)) → Q (.ref p) H'
theorem FrT.free {G : Gh} {H H' : Hp} {p : Addr} (l : ∀ b, H b = none → G.L b = none) (f : FrT G H H') (h : H' p = none) (hl : isT (G.L p) = false) : H p = none := by
  cases e : H p with
  | none => rfl
  | some o =>
    rw [f p o e hl] at h
    cases h
abbrev s_forget : Stmt := topS 11
theorem sc_forget : FnScope ["tree", "limit", "gone"] ["tree", "limit"] (defScope s_forget) := ⟨rfl, rfl, rfl, by decide +kernel, rfl, by decide +kernel, by decide +kernel⟩
theorem b_forget : Bind "forget" "forget" s_forget ["tree", "limit"] := fun _ _ _ _ _ _ us hl => match us, hl with | [_, _], _ => rfl
theorem ok_forget (T : Txt K mg C) (D : DefF K mg "forget" s_forget) (c_without_roots : CalF P w K mg base 3 "without_roots" ["tree", "limit"] (sp_without_roots K C)) (c_without_leaves : CalF P w K mg base 4 "without_leaves" ["tree", "limit"] (sp_without_leaves K C)) : CalF P w K mg base 5 "forget" ["tree", "limit"] (sp_forget K C) := by
  refine D.cal b_forget fun f fd F => F.ok sc_forget (fun vs H Q E h => h.1) (fun cdv A outer s H vs Q E hr h => ?_)
  have hu := hu_of hr
  refine ⟨_, (pss_cons (ps_set (i := 2) sc_forget.nd rfl (Or.inl rfl) (pf c_without_leaves hr (by decide) (by rfl) (pa_cons (pv 0) (pa_cons (pv 1) pa_nil))))
        (pss_one (ps_ret (pe_op op_cat (pv 2) (pf c_without_roots hr (by decide) (by rfl) (pa_cons (pv 0) (pa_cons (pv 1) pa_nil))))))), ?_⟩
  obtain ⟨_, G, M, n, rfl, tr, W, sm, k⟩ := h
  repeat walk_at "ub1"
  refine ⟨rfl, G, M, n, rfl, tr, W, sm, fun H1 p1 tr1 f1 n1 e1 => ?_⟩
  obtain ⟨W1, cm1⟩ := woLeaves_keeps M.nodes.length W n []
  have sm1 : Sm (woLeaves M.nodes.length M n []).1 := by unfold Sm; rw [cm1]; exact sm
  have l1 := woLeaves_len M.nodes.length W n []
  have l2 := woRoots_len (woLeaves M.nodes.length M n []).1.nodes.length W1 n []
  have sml := small_nodes W sm
  repeat walk_at "ub1"
  refine ⟨rfl, G, _, n, rfl, tr1, W1, sm1, fun H2 p2 tr2 f2 n2 e2 => ?_⟩
  have e1' := f2 _ _ e1 (by rw [tr.lok p1 n1]; rfl)
  simp only [List.length_nil, Nat.zero_add] at l1 l2
  refine ⟨p1, p2, _, _, rfl, rfl, e1', e2, big (by rw [vInts_len, vInts_len]; omega), fun p3 n3 => ?_⟩
  have s3 := Same.new (o := .lst (vInts (woLeaves M.nodes.length M n []).2 ++ vInts (woRoots (woLeaves M.nodes.length M n []).1.nodes.length (woLeaves M.nodes.length M n []).1 n []).2)) n3
  refine k _ p3 (tr2.same s3) ((f1.trans f2).trans (FrT.of s3)) ?_ ?_
  · have l3 := tr2.lok _ n3
    exact (f1.trans f2).free tr.lok n3 (by rw [l3]; rfl)
  · rw [upd_same, ← vInts_app]
    rfl
end
/-! ### origins, regions -/
section
variable {P : Program} {w : World} {K : PySem.W.Frag} {mg : Str → Option Value} {base : Heap} {C : Cl}
def Chm (M : Tr) : Prop := ∀ x ∈ M.nodes, x.changes.length ≤ 100
theorem paired_at {A B : Type} {R : A → B → Prop} : ∀ {as : List A} {bs : List B} {i : Nat} {a : A}, Paired R as bs → as[i]? = some a → ∃ b, bs[i]? = some b ∧ R a b
  | _, _, _, _, .nil, h => by simp at h
  | _, _, 0, _, .cons r _, h => by
    simp at h
    subst h
    exact ⟨_, rfl, r⟩
  | _, _, i + 1, _, .cons _ t, h => by
    obtain ⟨b, h1, h2⟩ := paired_at (i := i) t (by simpa using h)
    exact ⟨b, by simpa using h1, h2⟩
theorem refs_at {as : List Addr} {i : Nat} {v : V} (h : (as.map V.ref)[i]? = some v) : ∃ a, as[i]? = some a ∧ v = V.ref a := by
  rw [List.getElem?_map] at h
  cases e : as[i]? with
  | none => rw [e] at h; cases h
  | some a => rw [e] at h; exact ⟨a, rfl, (Option.some.inj h).symm⟩
theorem paired_app {A B : Type} {R : A → B → Prop} : ∀ {as as' : List A} {bs bs' : List B}, Paired R as bs → Paired R as' bs' → Paired R (as ++ as') (bs ++ bs')
  | _, _, _, _, .nil, h => h
  | _, _, _, _, .cons r t, h => .cons r (paired_app t h)
theorem paired_len {A B : Type} {R : A → B → Prop} : ∀ {as : List A} {bs : List B}, Paired R as bs → as.length = bs.length
  | _, _, .nil => rfl
  | _, _, .cons _ t => by rw [List.length_cons, List.length_cons, paired_len t]
theorem ob_snoc (l : List Nat) (n : Nat) (cs : List Chg) (c : Chg) : originsBehind l n (cs ++ [c]) = Ue03.put (originsBehind l n cs) c.at_ c.out (List.replicate c.in_.length n) := by
  unfold originsBehind
  rw [List.foldl_append]
  rfl
theorem ob_len (n : Nat) : ∀ (cs : List Chg) (l : List Nat), (∀ c ∈ cs, c.in_.length ≤ 350) → (originsBehind l n cs).length ≤ l.length + 350 * cs.length
  | [], l, _ => Nat.le_add_right _ _
  | c :: cs, l, h => by
    have ih := ob_len n cs (Ue03.put l c.at_ c.out (List.replicate c.in_.length n)) fun d hd => h d (List.mem_cons_of_mem _ hd)
    have h1 := put_len l c.at_ c.out (List.replicate c.in_.length n)
    rw [List.length_replicate] at h1
    have h2 := h c (List.mem_cons_self ..)
    show (originsBehind (Ue03.put l c.at_ c.out (List.replicate c.in_.length n)) n cs).length ≤ _
    rw [List.length_cons]
    omega
theorem flat_rep (v : V) (k : Nat) : (List.replicate k [v]).flatten = List.replicate k v := by
  induction k with
  | zero => rfl
  | succ k ih => rw [List.replicate_succ, List.flatten_cons, ih]; rfl
theorem vInts_rep (n k : Nat) : List.replicate k (iV n) = vInts (List.replicate k n) := by
  unfold vInts
  rw [List.map_replicate]
def sp_origins_behind (_K : PySem.W.Frag) (C : Cl) : Sp := fun vs H Q _ => vs.length = 2 ∧ ∃ (G : Gh) (M : Tr) (n : Nat) (x : Nd) (a : Addr) (l : List Nat), vs = [.ref a, .ref (G.ad n)] ∧ H a = some (.lst (vInts l)) ∧ TreeAt C G H M ∧ M.find n = some x ∧ x.changes.length ≤ 100 ∧ (∀ c ∈ x.changes, c.in_.length ≤ 350) ∧ l.length ≤ 8000000 ∧
  ∀ H' p, Same H H' → H' p = some (.lst (vInts (originsBehind l n x.changes))) → Q (.ref p) H'
abbrev s_origins_behind : Stmt := topS 21
theorem sc_origins_behind : FnScope ["found", "state", "change"] ["found", "state"] (defScope s_origins_behind) := ⟨rfl, rfl, rfl, by decide +kernel, rfl, by decide +kernel, by decide +kernel⟩
theorem b_origins_behind : Bind "origins_behind" "origins_behind" s_origins_behind ["found", "state"] := fun _ _ _ _ _ _ us hl => match us, hl with | [_, _], _ => rfl
theorem ok_origins_behind (T : Txt K mg C) (D : DefF K mg "origins_behind" s_origins_behind) (c_exchanged : CalF P w K mg base 1 "exchanged" ["row", "change", "inserted"] (sp_exchanged K C)) : CalF P w K mg base 2 "origins_behind" ["found", "state"] (sp_origins_behind K C) := by
  refine D.cal b_origins_behind fun f fd F => F.ok sc_origins_behind (fun vs H Q E h => h.1) (fun cdv A outer s H vs Q E hr h => ?_)
  have hu := hu_of hr
  refine ⟨_, (pss_cons (ps_for PassesOwn.never rfl (pi_list (pe_fld (pv 1) rfl)) (pg_name (i := 2) sc_origins_behind.nd rfl (Or.inl rfl)) (pss_one (ps_set (i := 0) sc_origins_behind.nd rfl (Or.inl rfl) (pf c_exchanged hr (by decide) (by rfl) (pa_cons (pv 0) (pa_cons (pv 2) (pa_cons (pe_op op_rep (pe_lst (pa_cons (pe_fld (pv 1) rfl) pa_nil)) (pe_callB call_len_seq (by rfl) T.len PySem.boot_len (pa_cons (pe_fld (pv 2) rfl) pa_nil))) pa_nil)))))))
        (pss_one (ps_ret (pv 0)))), ?_⟩
  obtain ⟨_, G, M, n, x, a, l, rfl, ha, tr, hx, hch, hin, hl, k⟩ := h
  have en := (mem_of_find hx).2
  repeat walk_at "ub1"
  refine rdS_changes T tr hx fun ca as c1 c2 c3 => ?_
  refine ⟨ca, rfl, ⟨_, SqL.of c1⟩, for_list (K := K) (a := ca) (xs := as.map V.ref) (fun i σ H' => ∃ p v, σ = [some (.ref p), some (.ref (G.ad n)), v] ∧ Same H H' ∧ H' p = some (.lst (vInts (originsBehind l n (x.changes.take i))))) ⟨a, none, rfl, .refl H, ha⟩
    (fun i σ H' _ ⟨_, _, _, s, _⟩ => SqL.of (s _ _ c1)) ?_ ?_⟩
  · rintro i y σ H' hi ⟨p, v, rfl, s, hp⟩
    obtain ⟨b, hb, rfl⟩ := refs_at hi
    obtain ⟨c, hc, cb⟩ := paired_at c3 hb
    have cm : c ∈ x.changes := List.mem_of_getElem? hc
    have cb' := ChAt.frm cb (.of s)
    obtain ⟨dx, ia, h1, h2, h3, h4⟩ := id cb'.ex
    have hb0 := ob_len n (x.changes.take i) l fun d hd => hin d (List.mem_of_mem_take hd)
    have hlt : (x.changes.take i).length ≤ 100 := by rw [List.length_take]; omega
    have hci := hin c cm
    repeat walk_at "ub1"
    refine rdS_number T (tr.same s) hx ?_
    repeat walk_at "ub1"
    refine ⟨by show 1 ≤ sizeLine; decide, fun p1 n1 => ?_⟩
    have s1 := Same.new (o := .lst [iV x.number]) n1
    repeat walk_at "ub1"
    refine rdC_inserted T (s1 _ _ h1) ?_
    repeat walk_at "ub1"
    refine ⟨ia, _, rfl, .inl (SqL.of (s1 _ _ h3)), ?_⟩
    repeat walk_at "ub1"
    rw [vInts_len]
    refine ⟨p1, (c.in_.length : Int), [iV x.number], rfl, rfl, upd_same, by omega, by omega, big (by simp; omega), fun p2 n2 => ?_⟩
    have e2 : (List.replicate ((c.in_.length : Int)).toNat [iV x.number]).flatten = vInts (List.replicate c.in_.length n) := by
      rw [flat_rep, vInts_rep, en]
      rfl
    rw [e2]
    have s2 := Same.new (o := .lst (vInts (List.replicate c.in_.length n))) n2
    repeat walk_at "ub1"
    refine ⟨rfl, G, p, b, p2, _, _, c, rfl, s2 _ _ (s1 _ _ hp), cb'.frm (.of (s1.trans s2)), upd_same, by rw [vInts_len, vInts_len, List.length_replicate]; omega, fun H5 p5 s5 n5 e5 => ?_⟩
    refine ⟨p5, _, rfl, s.trans ((s1.trans s2).trans s5), ?_⟩
    rw [e5, put_vInts, take_more hc, ob_snoc]
  · rintro σ H' ⟨p, v, rfl, s, hp⟩
    rw [List.length_map, paired_len c3, List.take_length] at hp
    repeat walk_at "ub1"
    exact k _ p s hp
def obs (M : Tr) (l : List Nat) (found : List Nat) : List Nat := l.foldl (fun found n => originsBehind found n (changesOf M n)) found
theorem obs_snoc (M : Tr) (l : List Nat) (n : Nat) (f : List Nat) : obs M (l ++ [n]) f = originsBehind (obs M l f) n (changesOf M n) := by
  unfold obs
  rw [List.foldl_append]
  rfl
theorem obs_len {M : Tr} (W : WF M) (hc : Chm M) : ∀ (l : List Nat) (f : List Nat), (obs M l f).length ≤ f.length + 35000 * l.length
  | [], f => Nat.le_add_right _ _
  | n :: l, f => by
    have ih := obs_len W hc l (originsBehind f n (changesOf M n))
    have h1 : (originsBehind f n (changesOf M n)).length ≤ f.length + 35000 := by
      cases e : M.find n with
      | none =>
        unfold changesOf
        rw [e]
        exact Nat.le_add_right _ _
      | some x =>
        rw [changesOf_of e]
        have m := (mem_of_find e).1
        have := ob_len n x.changes f (W.ins x m)
        have := hc x m
        omega
    show (obs M l (originsBehind f n (changesOf M n))).length ≤ _
    rw [List.length_cons]
    omega
def sp_origins_of (_K : PySem.W.Frag) (C : Cl) : Sp := fun vs H Q _ => vs.length = 1 ∧ ∃ (G : Gh) (M : Tr), vs = [.ref G.t] ∧ TreeAt C G H M ∧ WF M ∧ Sm M ∧ Chm M ∧ ∀ H' p, Same H H' → H' p = some (.lst (vInts (originsOf M))) → Q (.ref p) H'
theorem vInts_drop1 (l : List Nat) : cutV (vInts l) (some 1) none = vInts (l.drop 1) := by
  have e0 : ((1 : Nat) : Int) = 1 := rfl
  rw [← e0, cutV_from]
  unfold vInts
  rw [List.map_drop]
abbrev s_origins_of : Stmt := topS 22
theorem sc_origins_of : FnScope ["tree", "found", "number"] ["tree"] (defScope s_origins_of) := ⟨rfl, rfl, rfl, by decide +kernel, rfl, by decide +kernel, by decide +kernel⟩
theorem b_origins_of : Bind "origins_of" "origins_of" s_origins_of ["tree"] := fun _ _ _ _ _ _ us hl => match us, hl with | [_], _ => rfl
theorem ok_origins_of (T : Txt K mg C) (D : DefF K mg "origins_of" s_origins_of) (c_Tree_way_to : CalM P w K mg base 1 C.tr "way_to" ["self", "number"] (sp_Tree_way_to K C)) (c_origins_behind : CalF P w K mg base 2 "origins_behind" ["found", "state"] (sp_origins_behind K C)) (c_Tree_state : CalM P w K mg base 1 C.tr "state" ["self", "number"] (sp_Tree_state K C)) : CalF P w K mg base 3 "origins_of" ["tree"] (sp_origins_of K C) := by
  refine D.cal b_origins_of fun f fd F => F.ok sc_origins_of (fun vs H Q E h => h.1) (fun cdv A outer s H vs Q E hr h => ?_)
  have hu := hu_of hr
  refine ⟨_, (pss_cons (ps_set (i := 1) sc_origins_of.nd rfl (Or.inl rfl) (pe_op op_rep (pe_lst (pa_cons (pe_fld (pv 0) rfl) pa_nil)) (pe_callB call_len_seq (by rfl) T.len PySem.boot_len (pa_cons (pe_fld (pm c_Tree_state T.cTr hr (by decide) (pv 0) (pa_cons (pe_fld (pv 0) rfl) pa_nil)) rfl) pa_nil))))
        (pss_cons (ps_for PassesOwn.never rfl (pi_list (pe_slice sl_list (pm c_Tree_way_to T.cTr hr (by decide) (pv 0) (pa_cons (pe_fld (pv 0) rfl) pa_nil)) (po_some pe_int) po_none)) (pg_name (i := 2) sc_origins_of.nd rfl (Or.inl rfl)) (pss_one (ps_set (i := 1) sc_origins_of.nd rfl (Or.inl rfl) (pf c_origins_behind hr (by decide) (by rfl) (pa_cons (pv 1) (pa_cons (pm c_Tree_state T.cTr hr (by decide) (pv 0) (pa_cons (pv 2) pa_nil)) pa_nil))))))
        (pss_one (ps_ret (pv 1))))), ?_⟩
  obtain ⟨_, G, M, rfl, tr, W, sm, hch, k⟩ := h
  obtain ⟨r, hr0, _⟩ := W.root
  obtain ⟨c, hcur⟩ := W.cur
  have hrl := W.len r (mem_of_find hr0).1
  repeat walk_at "ub1"
  refine rdT_root T tr ?_
  repeat walk_at "ub1"
  refine ⟨by show 1 ≤ sizeLine; decide, fun p1 n1 => ?_⟩
  have s1 := Same.new (o := .lst [iV M.root]) n1
  have tr1 := tr.same s1
  repeat walk_at "ub1"
  refine mtT tr1 ?_
  repeat walk_at "ub1"
  refine rdT_root T tr1 ?_
  repeat walk_at "ub1"
  refine ⟨rfl, G, M, M.root, r, rfl, tr1, hr0, ?_⟩
  refine rdS_text T tr1 hr0 fun ta ht => ?_
  repeat walk_at "ub1"
  refine ⟨ta, _, rfl, .inl (SqL.of ht.1), ?_⟩
  repeat walk_at "ub1"
  rw [vInts_len]
  refine ⟨p1, (r.text.length : Int), [iV M.root], rfl, rfl, upd_same, by omega, by omega, big (by simp; omega), fun p2 n2 => ?_⟩
  have e2 : (List.replicate ((r.text.length : Int)).toNat [iV M.root]).flatten = vInts (List.replicate (textOf M M.root).length M.root) := by
    rw [flat_rep, vInts_rep, textOf_of hr0]
    rfl
  rw [e2]
  have s2 := Same.new (o := .lst (vInts (List.replicate (textOf M M.root).length M.root))) n2
  have s12 := s1.trans s2
  have tr2 := tr.same s12
  have hp2 : upd (upd H p1 (.lst [iV M.root])) p2 (.lst (vInts (List.replicate (textOf M M.root).length M.root))) p2 = some (.lst (vInts (List.replicate (textOf M M.root).length M.root))) := upd_same
  generalize upd (upd H p1 (.lst [iV M.root])) p2 (.lst (vInts (List.replicate (textOf M M.root).length M.root))) = H2 at *
  repeat walk_at "ub1"
  refine mtT tr2 ?_
  repeat walk_at "ub1"
  refine rdT_current T tr2 ?_
  repeat walk_at "ub1"
  refine ⟨rfl, G, M, M.current, c, rfl, tr2, W, sm, hcur, fun H3 p3 s3 n3 e3 => ?_⟩
  repeat walk_at "ub1"
  refine ⟨p3, _, rfl, SqL.of e3, fun p4 n4 => ?_⟩
  rw [vInts_drop1]
  have s4 := Same.new (o := .lst (vInts ((wayTo M M.current).drop 1))) n4
  have s34 := s3.trans s4
  have e4 : upd H3 p4 (.lst (vInts ((wayTo M M.current).drop 1))) p4 = some (.lst (vInts ((wayTo M M.current).drop 1))) := upd_same
  generalize upd H3 p4 (.lst (vInts ((wayTo M M.current).drop 1))) = H4 at *
  have hrt : (List.replicate (textOf M M.root).length M.root).length ≤ 300 := by rw [List.length_replicate, textOf_of hr0]; exact hrl
  have hwl := way_small W sm hcur
  have hwl2 := way_len W _ _ hcur
  have hwl3 := find_lt W hcur
  have hsm : M.coming ≤ 200 := sm
  refine ⟨p4, rfl, ⟨_, SqL.of e4⟩, for_list (K := K) (a := p4) (xs := vInts ((wayTo M M.current).drop 1)) (fun i σ H' => ∃ p v, σ = [some (.ref G.t), some (.ref p), v] ∧ Same H4 H' ∧ H' p = some (.lst (vInts (obs M (((wayTo M M.current).drop 1).take i) (List.replicate (textOf M M.root).length M.root)))))
    ⟨p2, none, rfl, .refl _, s34 _ _ hp2⟩ (fun i σ H' _ ⟨_, _, _, s, _⟩ => SqL.of (s _ _ e4)) ?_ ?_⟩
  · rintro i y σ H' hi ⟨p, v, rfl, s, hp⟩
    obtain ⟨n, hn, rfl⟩ := vInts_at hi
    have hm : n ∈ wayTo M M.current := List.mem_of_mem_drop (List.mem_of_getElem? hn)
    obtain ⟨x, hx⟩ := way_has W _ _ hcur n hm
    have trh := tr.same (s12.trans (s34.trans s))
    have hb := obs_len W hch (((wayTo M M.current).drop 1).take i) (List.replicate (textOf M M.root).length M.root)
    have hti : (((wayTo M M.current).drop 1).take i).length ≤ 200 := by rw [List.length_take, List.length_drop]; omega
    repeat walk_at "ub1"
    refine mtT trh ?_
    repeat walk_at "ub1"
    refine ⟨rfl, G, M, n, x, rfl, trh, hx, ?_⟩
    repeat walk_at "ub1"
    refine ⟨rfl, G, M, n, x, p, _, rfl, hp, trh, hx, hch x (mem_of_find hx).1, W.ins x (mem_of_find hx).1, by omega, fun H5 p5 s5 e5 => ?_⟩
    refine ⟨p5, _, rfl, s.trans s5, ?_⟩
    rw [e5, take_more hn, obs_snoc, changesOf_of hx]
  · rintro σ H' ⟨p, v, rfl, s, hp⟩
    rw [vInts_len, List.take_length] at hp
    repeat walk_at "ub1"
    refine k _ p (s12.trans (s34.trans s)) ?_
    rw [hp, List.drop_one]
    rfl
def sp_start_behind (_K : PySem.W.Frag) (C : Cl) : Sp := fun vs H Q _ => vs.length = 3 ∧ ∃ (G : Gh) (s z : Nat) (a : Addr) (c : Chg), vs = [iV s, iV z, .ref a] ∧ ChAt C G H a c ∧ Q (.int (encP (startBehind s z c))) H
abbrev s_start_behind : Stmt := topS 25
theorem sc_start_behind : FnScope ["start", "size", "change"] ["start", "size", "change"] (defScope s_start_behind) := ⟨rfl, rfl, rfl, by decide +kernel, rfl, by decide +kernel, by decide +kernel⟩
theorem b_start_behind : Bind "start_behind" "start_behind" s_start_behind ["start", "size", "change"] := fun _ _ _ _ _ _ us hl => match us, hl with | [_, _, _], _ => rfl
theorem ok_start_behind (T : Txt K mg C) (D : DefF K mg "start_behind" s_start_behind) : CalF P w K mg base 1 "start_behind" ["start", "size", "change"] (sp_start_behind K C) := by
  refine D.cal b_start_behind fun f fd F => F.ok sc_start_behind (fun vs H Q E h => h.1) (fun cdv A outer s H vs Q E hr h => ?_)
  have hu := hu_of hr
  refine ⟨_, (pss_cons (ps_if (pt_cmpR op_ge (pe_fld (pv 2) rfl) (pe_op op_add (pv 0) (pv 1)) (nomark _)) (pss_one (ps_ret (pv 0))) pss_nil)
        (pss_cons (ps_if (pt_cmpR op_le (pe_op op_add (pe_fld (pv 2) rfl) (pe_fld (pv 2) rfl)) (pv 0) (nomark _)) (pss_one (ps_ret (pe_op op_sub (pe_op op_add (pv 0) (pe_callB call_len_seq (by rfl) T.len PySem.boot_len (pa_cons (pe_fld (pv 2) rfl) pa_nil))) (pe_fld (pv 2) rfl)))) pss_nil)
        (pss_one (ps_ret (pk T.kOVERLAPPED rfl))))), ?_⟩
  obtain ⟨_, G, s, z, a, c, rfl, hc, k⟩ := h
  obtain ⟨dx, ia, h1, h2, h3, h4⟩ := hc.ex
  unfold startBehind at k
  repeat walk_at "ub1"
  refine rdC_position T h1 ?_
  repeat walk_at "ub1"
  refine ite_dec (fun c1 => ?_) (fun c1 => ?_)
  · rw [if_pos (by omega)] at k
    repeat walk_at "ub1"
    exact k
  · rw [if_neg (by omega)] at k
    repeat walk_at "ub1"
    refine rdC_position T h1 ?_
    repeat walk_at "ub1"
    refine rdC_removed T h1 ?_
    repeat walk_at "ub1"
    refine ite_dec (fun c2 => ?_) (fun c2 => ?_)
    · rw [if_pos (by omega)] at k
      repeat walk_at "ub1"
      refine rdC_inserted T h1 ?_
      repeat walk_at "ub1"
      refine ⟨ia, _, rfl, .inl (SqL.of h3), ?_⟩
      repeat walk_at "ub1"
      refine rdC_removed T h1 ?_
      repeat walk_at "ub1"
      rw [vInts_len]
      have e : (s : Int) + (c.in_.length : Int) - (c.out : Int) = encP (some (s + c.in_.length - c.out)) := by
        show _ = ((s + c.in_.length - c.out : Nat) : Int)
        omega
      rw [e]
      exact k
    · rw [if_neg (by omega)] at k
      repeat walk_at "ub1"
      exact k
def sp_start_behind_all (_K : PySem.W.Frag) (C : Cl) : Sp := fun vs H Q _ => vs.length = 3 ∧ ∃ (G : Gh) (s z : Nat) (a : Addr) (as : List Addr) (cs : List Chg), vs = [iV s, iV z, .ref a] ∧ H a = some (.lst (as.map V.ref)) ∧ ChsAt C G H as cs ∧ Q (.int (encP (startBehindAll z s cs))) H
abbrev s_start_behind_all : Stmt := topS 26
theorem sc_start_behind_all : FnScope ["start", "size", "changes", "change"] ["start", "size", "changes"] (defScope s_start_behind_all) := ⟨rfl, rfl, rfl, by decide +kernel, rfl, by decide +kernel, by decide +kernel⟩
theorem b_start_behind_all : Bind "start_behind_all" "start_behind_all" s_start_behind_all ["start", "size", "changes"] := fun _ _ _ _ _ _ us hl => match us, hl with | [_, _, _], _ => rfl
theorem ok_start_behind_all (T : Txt K mg C) (D : DefF K mg "start_behind_all" s_start_behind_all) (c_start_behind : CalF P w K mg base 1 "start_behind" ["start", "size", "change"] (sp_start_behind K C)) : CalF P w K mg base 2 "start_behind_all" ["start", "size", "changes"] (sp_start_behind_all K C) := by
  refine D.cal b_start_behind_all fun f fd F => F.ok sc_start_behind_all (fun vs H Q E h => h.1) (fun cdv A outer s H vs Q E hr h => ?_)
  have hu := hu_of hr
  refine ⟨_, (pss_cons (ps_for PassesOwn.never rfl (pi_list (pv 2)) (pg_name (i := 3) sc_start_behind_all.nd rfl (Or.inl rfl)) (pss_cons (ps_set (i := 0) sc_start_behind_all.nd rfl (Or.inl rfl) (pf c_start_behind hr (by decide) (by rfl) (pa_cons (pv 0) (pa_cons (pv 1) (pa_cons (pv 3) pa_nil)))))
        (pss_one (ps_if (pt_cmpR op_eq (pv 0) (pk T.kOVERLAPPED rfl) (nomark _)) (pss_one (ps_ret (pk T.kOVERLAPPED rfl))) pss_nil))))
        (pss_one (ps_ret (pv 0)))), ?_⟩
  obtain ⟨_, G, s, z, a, as, cs, rfl, ha, hcs, k⟩ := h
  repeat walk_at "ub1"
  refine ⟨a, rfl, ⟨_, SqL.of ha⟩, for_list (K := K) (a := a) (xs := as.map V.ref) (fun i σ H' => ∃ (s' : Nat) (v : Option V), σ = [some (iV s'), some (iV z), some (.ref a), v] ∧ H' = H ∧ startBehindAll z s cs = startBehindAll z s' (cs.drop i)) ⟨s, none, rfl, rfl, rfl⟩
    (fun i σ H' _ ⟨_, _, _, e, _⟩ => SqL.of (by rw [e]; exact ha)) ?_ ?_⟩
  · rintro i y σ H' hi ⟨s', v, rfl, rfl, e⟩
    obtain ⟨b, hb, rfl⟩ := refs_at hi
    obtain ⟨c, hc, cb⟩ := paired_at hcs hb
    obtain ⟨hlt, ec⟩ := List.getElem?_eq_some_iff.mp hc
    rw [List.drop_eq_getElem_cons hlt, ec] at e
    repeat walk_at "ub1"
    refine ⟨rfl, G, s', z, b, c, rfl, cb, ?_⟩
    repeat walk_at "ub1"
    cases q : startBehind s' z c with
    | none =>
      have e' : startBehindAll z s cs = none := by
        rw [e]
        unfold startBehindAll
        rw [q]
      refine ite_dec (fun _ => ?_) (fun h => absurd rfl h)
      repeat walk_at "ub1"
      rw [e'] at k
      exact k
    | some s2 =>
      refine ite_dec (fun h => ?_) (fun _ => ?_)
      · exfalso
        have h' : ((s2 : Nat) : Int) = -1 := h
        omega
      · repeat walk_at "ub1"
        refine ⟨s2, _, rfl, rfl, ?_⟩
        rw [e]
        conv => lhs; unfold startBehindAll
        rw [q]
  · rintro σ H' ⟨s', v, rfl, rfl, e⟩
    rw [List.length_map, paired_len hcs, List.drop_length] at e
    repeat walk_at "ub1"
    rw [e] at k
    exact k
def sp_changes_behind (_K : PySem.W.Frag) (C : Cl) : Sp := fun vs H Q _ => vs.length = 2 ∧ ∃ (G : Gh) (M : Tr) (n : Nat), vs = [.ref G.t, iV n] ∧ TreeAt C G H M ∧ WF M ∧ Sm M ∧ Chm M ∧ n ∈ wayTo M M.current ∧
  ∀ H' p as, Same H H' → H p = none → H' p = some (.lst (as.map V.ref)) → ChsAt C G H' as (changesBehind M n) → Q (.ref p) H'
theorem idx_at : ∀ (l : List Nat) (n : Nat), n ∈ l → l[l.idxOf n]? = some n ∧ ∀ m z, m < l.idxOf n → l[m]? = some z → z ≠ n
  | a :: l, n, h => by
    by_cases e : a = n
    · subst e
      rw [List.idxOf_cons_self]
      exact ⟨rfl, fun m z hm => absurd hm (Nat.not_lt_zero _)⟩
    · have hm : n ∈ l := by
        rcases List.mem_cons.mp h with q | q
        · exact absurd q.symm e
        · exact q
      obtain ⟨h1, h2⟩ := idx_at l n hm
      have ei : (a :: l).idxOf n = l.idxOf n + 1 := by
        have eb : (a == n) = false := by simp [e]
        rw [List.idxOf_cons, eb]
        rfl
      rw [ei]
      refine ⟨h1, fun m z hm hz => ?_⟩
      cases m with
      | zero =>
        have : a = z := Option.some.inj hz
        rw [← this]
        exact e
      | succ m => exact h2 m z (by omega) hz
theorem cb_len {M : Tr} (hc : Chm M) : ∀ (l : List Nat), (l.flatMap (changesOf M)).length ≤ 100 * l.length
  | [] => Nat.zero_le _
  | n :: l => by
    have ih := cb_len hc l
    have h1 : (changesOf M n).length ≤ 100 := by
      cases e : M.find n with
      | none =>
        unfold changesOf
        rw [e]
        exact Nat.zero_le _
      | some x =>
        rw [changesOf_of e]
        exact hc x (mem_of_find e).1
    rw [List.flatMap_cons, List.length_append, List.length_cons]
    omega
theorem rdS_changes2 {G : Gh} {H1 H' : Hp} {M : Tr} {n : Nat} {x : Nd} {Q : VK} (T : Txt K mg C) (h : TreeAt C G H1 M) (s : Same H1 H') (hx : M.find n = some x) (q : ∀ ca as, H1 ca = some (.lst (as.map V.ref)) → ChsAt C G H1 as x.changes → Q (.ref ca) H') : FldR K "changes" (.ref (G.ad n)) H' Q := by
  obtain ⟨st, rfl⟩ := h.st hx
  obtain ⟨dx, ca, ta, ka, as, e, _, ⟨c1, c2, c3⟩, _⟩ := st.ex
  exact i_rd (s _ _ e) T.cSt T.nChanges rfl (q ca as c1 c3)
abbrev s_changes_behind : Stmt := topS 27
theorem sc_changes_behind : FnScope ["tree", "number", "way", "found", "later"] ["tree", "number"] (defScope s_changes_behind) := ⟨rfl, rfl, rfl, by decide +kernel, rfl, by decide +kernel, by decide +kernel⟩
theorem b_changes_behind : Bind "changes_behind" "changes_behind" s_changes_behind ["tree", "number"] := fun _ _ _ _ _ _ us hl => match us, hl with | [_, _], _ => rfl
theorem ok_changes_behind (T : Txt K mg C) (D : DefF K mg "changes_behind" s_changes_behind) (c_Tree_state : CalM P w K mg base 1 C.tr "state" ["self", "number"] (sp_Tree_state K C)) (c_Tree_way_to : CalM P w K mg base 1 C.tr "way_to" ["self", "number"] (sp_Tree_way_to K C)) : CalF P w K mg base 2 "changes_behind" ["tree", "number"] (sp_changes_behind K C) := by
  refine D.cal b_changes_behind fun f fd F => F.ok sc_changes_behind (fun vs H Q E h => h.1) (fun cdv A outer s H vs Q E hr h => ?_)
  have hu := hu_of hr
  refine ⟨_, (pss_cons (ps_set (i := 2) sc_changes_behind.nd rfl (Or.inl rfl) (pm c_Tree_way_to T.cTr hr (by decide) (pv 0) (pa_cons (pe_fld (pv 0) rfl) pa_nil)))
        (pss_cons (ps_set (i := 3) sc_changes_behind.nd rfl (Or.inl rfl) (pe_lst pa_nil))
        (pss_cons (ps_for PassesOwn.never rfl (pi_list (pe_slice sl_list (pv 2) (po_some (pe_op op_add (pe_bm PySem.F.plainAttrs_list PySem.F.slot_list_index PySem.F.type_list_index mt_index (pv 2) (pa_cons (pv 1) pa_nil)) pe_int)) po_none)) (pg_name (i := 4) sc_changes_behind.nd rfl (Or.inl rfl)) (pss_one (ps_expr (pe_bm PySem.F.plainAttrs_list PySem.F.slot_list_extend PySem.F.type_list_extend mt_extend (pv 3) (pa_cons (pe_fld (pm c_Tree_state T.cTr hr (by decide) (pv 0) (pa_cons (pv 4) pa_nil)) rfl) pa_nil)))))
        (pss_one (ps_ret (pv 3)))))), ?_⟩
  obtain ⟨_, G, M, n, rfl, tr, W, sm, hch, hn, k⟩ := h
  obtain ⟨c, hcur⟩ := W.cur
  have hwl := way_small W sm hcur
  repeat walk_at "ub1"
  refine mtT tr ?_
  repeat walk_at "ub1"
  refine rdT_current T tr ?_
  repeat walk_at "ub1"
  refine ⟨rfl, G, M, M.current, c, rfl, tr, W, sm, hcur, fun H1 p1 s1 n1 e1 => ?_⟩
  repeat walk_at "ub1"
  refine ⟨Nat.zero_le _, fun p2 n2 => ?_⟩
  have s2 := Same.new (o := .lst []) n2
  repeat walk_at "ub1"
  refine ⟨.inl ⟨rfl, _, SqL.of (s2 _ _ e1)⟩, ?_⟩
  repeat walk_at "ub1"
  obtain ⟨i1, i2⟩ := idx_at _ n hn
  refine ⟨p1, _, iV n, (wayTo M M.current).idxOf n, iV n, rfl, rfl, SqL.of (s2 _ _ e1), rfl, flat_vInts _, ?_, by rw [eqV_ints]; simp, fun m z hm hz => ?_, ?_⟩
  · unfold vInts
    rw [List.getElem?_map, i1]
    rfl
  · obtain ⟨q, hq, rfl⟩ := vInts_at hz
    rw [eqV_ints]
    have := i2 m q hm hq
    simp
    omega
  repeat walk_at "ub1"
  refine ⟨p1, _, rfl, SqL.of (s2 _ _ e1), fun p3 n3 => ?_⟩
  have e0 : (((wayTo M M.current).idxOf n : Nat) : Int) + 1 = (((wayTo M M.current).idxOf n + 1 : Nat) : Int) := by omega
  rw [e0, cutV_from]
  have e3 : List.drop ((wayTo M M.current).idxOf n + 1) (vInts (wayTo M M.current)) = vInts ((wayTo M M.current).drop ((wayTo M M.current).idxOf n + 1)) := by
    unfold vInts
    rw [List.map_drop]
  rw [e3]
  have s3 := Same.new (o := .lst (vInts ((wayTo M M.current).drop ((wayTo M M.current).idxOf n + 1)))) n3
  have h2 := s3 _ _ (upd_same : upd H1 p2 (.lst []) p2 = _)
  have h3 : upd (upd H1 p2 (.lst [])) p3 (.lst (vInts ((wayTo M M.current).drop ((wayTo M M.current).idxOf n + 1)))) p3 = some (.lst (vInts ((wayTo M M.current).drop ((wayTo M M.current).idxOf n + 1)))) := upd_same
  have s123 : Same H1 (upd (upd H1 p2 (.lst [])) p3 (.lst (vInts ((wayTo M M.current).drop ((wayTo M M.current).idxOf n + 1))))) := s2.trans s3
  have n23 : p3 ≠ p2 := (ne_of_none upd_same n3).symm
  generalize upd (upd H1 p2 (.lst [])) p3 (.lst (vInts ((wayTo M M.current).drop ((wayTo M M.current).idxOf n + 1)))) = H3 at *
  have nH2 : H p2 = none := s1.free n2
  refine ⟨p3, rfl, ⟨_, SqL.of h3⟩, for_list (K := K) (a := p3) (xs := vInts ((wayTo M M.current).drop ((wayTo M M.current).idxOf n + 1))) (fun i σ H' => ∃ (as : List Addr) (v : Option V), σ = [some (.ref G.t), some (iV n), some (.ref p1), some (.ref p2), v] ∧ Same H1 H' ∧ H' p3 = some (.lst (vInts ((wayTo M M.current).drop ((wayTo M M.current).idxOf n + 1)))) ∧
      H' p2 = some (.lst (as.map V.ref)) ∧ ChsAt C G H1 as ((((wayTo M M.current).drop ((wayTo M M.current).idxOf n + 1)).take i).flatMap (changesOf M)))
    ⟨[], none, rfl, s123, h3, h2, .nil⟩ (fun i σ H' _ ⟨_, _, _, _, q, _⟩ => SqL.of q) ?_ ?_⟩
  · rintro i y σ H' hi ⟨as, v, rfl, s, q3, q2, hcs⟩
    obtain ⟨j, hj, rfl⟩ := vInts_at hi
    have hm : j ∈ wayTo M M.current := List.mem_of_mem_drop (List.mem_of_getElem? hj)
    obtain ⟨x, hx⟩ := way_has W _ _ hcur j hm
    have trh := tr.same (s1.trans s)
    have hb := cb_len hch (((wayTo M M.current).drop ((wayTo M M.current).idxOf n + 1)).take i)
    have hti : (((wayTo M M.current).drop ((wayTo M M.current).idxOf n + 1)).take i).length ≤ 1000 := by rw [List.length_take, List.length_drop]; omega
    have hxl := hch x (mem_of_find hx).1
    repeat walk_at "ub1"
    refine ⟨.inl ⟨rfl, _, SqL.of q2⟩, ?_⟩
    repeat walk_at "ub1"
    refine mtT trh ?_
    repeat walk_at "ub1"
    refine ⟨rfl, G, M, j, x, rfl, trh, hx, ?_⟩
    refine rdS_changes2 T (tr.same s1) s hx fun ca as' c1 c3 => ?_
    repeat walk_at "ub1"
    have l1 := paired_len hcs
    have l2 := paired_len c3
    refine ⟨p2, ca, _, _, rfl, rfl, q2, s _ _ c1, big (by rw [List.length_map, List.length_map]; omega), ?_⟩
    have s6 : Same H1 (upd H' p2 (.lst (as.map V.ref ++ as'.map V.ref))) := fun b o e => by
      rw [upd_ne (ne_of_none e n2)]
      exact s b o e
    refine ⟨as ++ as', _, rfl, s6, ?_, ?_, ?_⟩
    · rw [upd_ne n23]
      exact q3
    · rw [upd_same, List.map_append]
    · rw [take_more hj, List.flatMap_append]
      refine paired_app hcs ?_
      rw [List.flatMap_cons, List.flatMap_nil, List.append_nil, changesOf_of hx]
      exact c3
  · rintro σ H' ⟨as, v, rfl, s, q3, q2, hcs⟩
    rw [vInts_len, List.take_length] at hcs
    repeat walk_at "ub1"
    exact k _ p2 as (s1.trans s) nH2 q2 (hcs.frm (.of s))
def sp_reverting (_K : PySem.W.Frag) (C : Cl) : Sp := fun vs H Q _ => vs.length = 2 ∧ ∃ (G : Gh) (M : Tr) (n p : Nat) (x y : Nd) (c : Chg) (l : List Chg), vs = [.ref G.t, iV n] ∧ TreeAt C G H M ∧ WF M ∧ Sm M ∧ Chm M ∧ M.find n = some x ∧ x.parent = some p ∧ M.find p = some y ∧ x.changes = c :: l ∧ n ∈ wayTo M M.current ∧
  (reverting M x p c = none → ∀ H', Same H H' → Q .non H') ∧ ∀ d, reverting M x p c = some d → ∀ H' a, Same H H' → ChAt C G H' a d → Q (.ref a) H'
abbrev s_reverting : Stmt := topS 28
theorem sc_reverting : FnScope ["tree", "number", "state", "change", "size", "start"] ["tree", "number"] (defScope s_reverting) := ⟨rfl, rfl, rfl, by decide +kernel, rfl, by decide +kernel, by decide +kernel⟩
theorem b_reverting : Bind "reverting" "reverting" s_reverting ["tree", "number"] := fun _ _ _ _ _ _ us hl => match us, hl with | [_, _], _ => rfl
theorem ok_reverting (T : Txt K mg C) (D : DefF K mg "reverting" s_reverting) (c_Change_init : CalI P w K mg base 1 C.ch ["self", "position", "removed", "inserted"] (sp_Change_init K C)) (c_removed_bytes : CalF P w K mg base 1 "removed_bytes" ["text", "change"] (sp_removed_bytes K C)) (c_Tree_state : CalM P w K mg base 1 C.tr "state" ["self", "number"] (sp_Tree_state K C)) (c_start_behind_all : CalF P w K mg base 2 "start_behind_all" ["start", "size", "changes"] (sp_start_behind_all K C)) (c_changes_behind : CalF P w K mg base 2 "changes_behind" ["tree", "number"] (sp_changes_behind K C)) : CalF P w K mg base 3 "reverting" ["tree", "number"] (sp_reverting K C) := by
  refine D.cal b_reverting fun f fd F => F.ok sc_reverting (fun vs H Q E h => h.1) (fun cdv A outer s H vs Q E hr h => ?_)
  have hu := hu_of hr
  refine ⟨_, (pss_cons (ps_set (i := 2) sc_reverting.nd rfl (Or.inl rfl) (pm c_Tree_state T.cTr hr (by decide) (pv 0) (pa_cons (pv 1) pa_nil)))
        (pss_cons (ps_set (i := 3) sc_reverting.nd rfl (Or.inl rfl) (pe_ix ix_list (pe_fld (pv 2) rfl) pe_int (fun _ _ => rfl)))
        (pss_cons (ps_set (i := 4) sc_reverting.nd rfl (Or.inl rfl) (pe_callB call_len_seq (by rfl) T.len PySem.boot_len (pa_cons (pe_fld (pv 3) rfl) pa_nil)))
        (pss_cons (ps_set (i := 5) sc_reverting.nd rfl (Or.inl rfl) (pf c_start_behind_all hr (by decide) (by rfl) (pa_cons (pe_fld (pv 3) rfl) (pa_cons (pv 4) (pa_cons (pf c_changes_behind hr (by decide) (by rfl) (pa_cons (pv 0) (pa_cons (pv 1) pa_nil))) pa_nil)))))
        (pss_cons (ps_if (pt_cmpR op_eq (pv 5) (pk T.kOVERLAPPED rfl) (nomark _)) (pss_one (ps_ret pe_non)) pss_nil)
        (pss_one (ps_ret (pi_ c_Change_init hr (by decide) (by rfl) T.gCh (pa_cons (pv 5) (pa_cons (pv 4) (pa_cons (pf c_removed_bytes hr (by decide) (by rfl) (pa_cons (pe_fld (pm c_Tree_state T.cTr hr (by decide) (pv 0) (pa_cons (pe_fld (pv 2) rfl) pa_nil)) rfl) (pa_cons (pv 3) pa_nil))) pa_nil))))))))))), ?_⟩
  obtain ⟨_, G, M, n, p, x, y, c, l, rfl, tr, W, sm, hch, hx, hp, hy, hc, hn, k1, k2⟩ := h
  have en := (mem_of_find hx).2
  repeat walk_at "ub1"
  refine mtT tr ?_
  repeat walk_at "ub1"
  refine ⟨rfl, G, M, n, x, rfl, tr, hx, ?_⟩
  repeat walk_at "ub1"
  refine rdS_changes T tr hx fun ca as c1 c2 c3 => ?_
  rw [hc] at c3
  cases c3 with
  | @cons a _ as _ ch0 c4 =>
  obtain ⟨dx, ia, h1, h2, h3, h4⟩ := id ch0.ex
  repeat walk_at "ub1"
  refine ⟨ca, _, _, .ref a, rfl, rfl, SqL.of c1, at_of (j := 0) rfl rfl, ?_⟩
  repeat walk_at "ub1"
  refine rdC_inserted T h1 ?_
  repeat walk_at "ub1"
  refine ⟨ia, _, rfl, .inl (SqL.of h3), ?_⟩
  repeat walk_at "ub1"
  rw [vInts_len]
  refine rdC_position T h1 ?_
  repeat walk_at "ub1"
  refine ⟨rfl, G, M, n, rfl, tr, W, sm, hch, hn, fun H1 p1 as1 s1 n1 e1 q1 => ?_⟩
  have tr1 := tr.same s1
  have hb1 := s1 _ _ h1
  repeat walk_at "ub1"
  refine ⟨rfl, G, c.at_, c.in_.length, p1, as1, _, rfl, e1, q1, ?_⟩
  repeat walk_at "ub1"
  have er : reverting M x p c = match startBehindAll c.in_.length c.at_ (changesBehind M n) with
    | some s => some ⟨s, c.in_.length, cutOut (textOf M p) c⟩
    | none => none := by
    unfold reverting
    rw [en] <;> cases startBehindAll c.in_.length c.at_ (changesBehind M n) <;> rfl
  cases q : startBehindAll c.in_.length c.at_ (changesBehind M n) with
  | none =>
    refine ite_dec (fun _ => ?_) (fun h => absurd rfl h)
    repeat walk_at "ub1"
    exact k1 (by rw [er, q] <;> rfl) _ s1
  | some s2 =>
    refine ite_dec (fun h => ?_) (fun _ => ?_)
    · exfalso
      have h' : ((s2 : Nat) : Int) = -1 := h
      omega
    · repeat walk_at "ub1"
      refine mtT tr1 ?_
      repeat walk_at "ub1"
      refine rdS_parent T tr1 hx ?_
      rw [hp]
      repeat walk_at "ub1"
      refine ⟨rfl, G, M, p, y, rfl, tr1, hy, ?_⟩
      refine rdS_text T tr1 hy fun ta ht => ?_
      repeat walk_at "ub1"
      refine ⟨rfl, G, ta, a, y.text, c, rfl, ht.1, ch0.frm (.of s1), fun H2 p2 s3 n2 e2 => ?_⟩
      repeat walk_at "ub1"
      intro z dz hz hdz ndz
      refine ⟨rfl, z, dz, p2, s2, c.in_.length, rfl, upd_same, fun H4 h6 h7 => ⟨rfl, ?_⟩⟩
      have sz : Same H2 H4 := fun b u e => h7 b u (by rw [upd_ne (ne_of_none e hz), upd_ne (ne_of_none e hdz)]; exact e) (ne_of_none e hz)
      have hz2 : H2 z = none := hz
      have s14 := (s1.trans s3).trans sz
      refine k2 ⟨s2, c.in_.length, cutOut (textOf M p) c⟩ (by rw [er, q] <;> rfl) _ z s14 ⟨dz, p2, h6, tr.lok z ((s1.trans s3).free hz2), ?_, tr.lok p2 (s1.free n2)⟩
      rw [textOf_of hy]
      exact sz _ _ e2
end
/-! ### the session -/
section
variable {P : Program} {w : World} {K : PySem.W.Frag} {mg : Str → Option Value} {base : Heap} {C : Cl}
/-- what is not the session's own stays -/
def FrO (G : Gh) (H : Hp) (G' : Gh) (H' : Hp) : Prop := ∀ b o, H b = some o → (G.L b = none ∨ G.L b = some .out) → H' b = some o ∧ G'.L b = G.L b
theorem FrO.refl {G : Gh} {H : Hp} : FrO G H G H := fun _ _ h _ => ⟨h, rfl⟩
theorem FrO.trans {G G1 G2 : Gh} {H H1 H2 : Hp} (a : FrO G H G1 H1) (b : FrO G1 H1 G2 H2) : FrO G H G2 H2 := fun c o h l => by
  obtain ⟨h1, l1⟩ := a c o h l
  obtain ⟨h2, l2⟩ := b c o h1 (by rw [l1]; exact l)
  exact ⟨h2, l2.trans l1⟩
theorem Same.fro {G : Gh} {H H' : Hp} (s : Same H H') : FrO G H G H' := fun b o h _ => ⟨s b o h, rfl⟩
theorem FrT.fro {G : Gh} {H H' : Hp} (f : FrT G H H') : FrO G H G H' := fun b o h l => ⟨f b o h (by rcases l with l | l <;> (rw [l]; rfl)), rfl⟩
theorem FrC.fro {G G' : Gh} {H H' : Hp} (f : FrC G H G' H') : FrO G H G' H' := fun b o h l => f b o h (by rcases l with l | l <;> (rw [l]; rfl))
theorem FrO.frm {G G' : Gh} {H H' : Hp} (f : FrO G H G' H') : Frm G H G' H' := fun b o h l => ⟨(f b o h (.inl l)).1, (f b o h (.inl l)).2.trans l⟩
/-- what an operation answers: a list that is none of those which stood outside -/
def Ret (C : Cl) (G : Gh) (H : Hp) (Q : VK) (r : Ans) : Prop := ∀ (H' : Hp) (G' : Gh) (p : Addr), G'.s = G.s → SessAt C G' H' r.1 → FrO G H G' H' → (∀ b o, H b = some o → (G.L b = none ∨ G.L b = some .out) → p ≠ b) → H' p = some (.lst (r.2.map V.int)) → Q (.ref p) H'
theorem Ret.new {G G' : Gh} {H0 H : Hp} {Q : VK} {r : Ans} {p : Addr} {l : List V} (k : Ret C G H0 Q r) (es : G'.s = G.s) (ss : SessAt C G' H r.1) (f : FrO G H0 G' H) (hp : H p = none) (e : l = r.2.map V.int) : Q (.ref p) (upd H p (.lst l)) := by
  have s := Same.new (o := .lst l) hp
  refine k _ G' p es (ss.same s) (f.trans (Same.fro s)) (fun b o hb lb => ?_) (by rw [upd_same, e])
  exact (ne_of_none (f b o hb lb).1 hp).symm
theorem asInts_vInts (l : List Nat) : (asInts l).map V.int = vInts l := by
  unfold asInts vInts
  rw [List.map_map]
  rfl
structure Fit (M : Se) : Prop where
  good : Good M
  sm : Sm M.tree
  chm : Chm M.tree
  grp : ∀ cs t, M.group = some (cs, t) → cs.length ≤ 100
section
variable {G : Gh} {H : Hp} {Q : VK} {M : Se}
theorem rdM_tree (T : Txt K mg C) (h : SessAt C G H M) (q : Q (.ref G.t) H) : FldR K "tree" (.ref G.s) H Q := let ⟨_, _, _, e, _⟩ := h.obj; i_rd e T.cSe T.nTree rfl q
theorem rdM_clock (T : Txt K mg C) (h : SessAt C G H M) (q : Q (iV M.clock) H) : FldR K "clock" (.ref G.s) H Q := let ⟨_, _, _, e, _⟩ := h.obj; i_rd e T.cSe T.nClock rfl q
theorem rdM_open (T : Txt K mg C) (h : SessAt C G H M) (q : Q (.bl M.group.isSome) H) : FldR K "is_open" (.ref G.s) H Q := let ⟨_, _, _, e, _⟩ := h.obj; i_rd e T.cSe T.nOpen rfl q
theorem rdM_draft (T : Txt K mg C) (h : SessAt C G H M) {cs : List Chg} {t : List Nat} (hg : M.group = some (cs, t)) (q : ∀ da, TextAt G H da t → Q (.ref da) H) : FldR K "draft" (.ref G.s) H Q := by
  obtain ⟨dx, g, d, e, _, k⟩ := h.obj
  obtain ⟨ga, da, as, rfl, rfl, _, _, _, ht⟩ := k cs t hg
  exact i_rd e T.cSe T.nDraft rfl (q da ht)
theorem rdM_grouped (T : Txt K mg C) (h : SessAt C G H M) {cs : List Chg} {t : List Nat} (hg : M.group = some (cs, t)) (q : ∀ ga as, H ga = some (.lst (as.map V.ref)) → G.L ga = some .grp → ChsAt C G H as cs → Q (.ref ga) H) : FldR K "grouped" (.ref G.s) H Q := by
  obtain ⟨dx, g, d, e, _, k⟩ := h.obj
  obtain ⟨ga, da, as, rfl, rfl, h1, h2, h3, _⟩ := k cs t hg
  exact i_rd e T.cSe T.nGrouped rfl (q ga as h1 h2 h3)
theorem mtM {m : Str} {R : Prop} (h : SessAt C G H M) (q : R) (l : ∀ a b c d e : V, List.lookup m [(("tree" : Str), a), ("clock", b), ("is_open", c), ("grouped", d), ("draft", e)] = none := by intros; rfl) : MthR C.se m (.ref G.s) H R := let ⟨_, _, _, e, _⟩ := h.obj; i_mth e (l _ _ _ _ _) q
/-- the session's own object is stored, the tree stands -/
theorem SessAt.put {M' : Se} {dx : Addr} {fs : List (Str × V)} (h : SessAt C G H M) (et : M'.tree = M.tree) (hf : ∃ g d, fs = seF G.t M'.clock M'.group.isSome g d ∧ ∀ cs t, M'.group = some (cs, t) → ∃ ga da as, g = .ref ga ∧ d = .ref da ∧ H ga = some (.lst (as.map V.ref)) ∧ G.L ga = some .grp ∧ ChsAt C G H as cs ∧ TextAt G H da t) :
    SessAt C G (upd H G.s (.ins C.se dx fs)) M' ∧ FrO G H G (upd H G.s (.ins C.se dx fs)) := by
  obtain ⟨_, _, _, _, ls, _⟩ := h.obj
  have ho : ∀ b o, H b = some o → G.L b ≠ some .sess → upd H G.s (.ins C.se dx fs) b = some o := fun b o e z => by
    rw [upd_ne (ne_lab (by rw [ls]; exact z))]
    exact e
  have fo : FrO G H G (upd H G.s (.ins C.se dx fs)) := fun b o e l => ⟨ho b o e (by rcases l with l | l <;> (rw [l]; simp)), rfl⟩
  refine ⟨⟨?_, ?_⟩, fo⟩
  · obtain ⟨g, d, rfl, k⟩ := hf
    refine ⟨dx, g, d, upd_same, ls, fun cs t e => ?_⟩
    obtain ⟨ga, da, as, e1, e2, h1, h2, h3, h4⟩ := k cs t e
    exact ⟨ga, da, as, e1, e2, ho _ _ h1 (by rw [h2]; simp), h2, h3.frm fo.frm, h4.frm fo.frm⟩
  · rw [et]
    exact h.tree.poke ls rfl _
end
def sp_Session_text_now (_K : PySem.W.Frag) (C : Cl) : Sp := fun vs H Q _ => vs.length = 1 ∧ ∃ (G : Gh) (M : Se), vs = [.ref G.s] ∧ SessAt C G H M ∧ WF M.tree ∧ ∀ a, TextAt G H a M.textNow → Q (.ref a) H
abbrev s_Session_text_now : Stmt := inClass (topS 47) 1
theorem sc_Session_text_now : FnScope ["self"] ["self"] (defScope s_Session_text_now) := ⟨rfl, rfl, rfl, by decide +kernel, rfl, by decide +kernel, by decide +kernel⟩
theorem b_Session_text_now : Bind "text_now" "Session.text_now" s_Session_text_now ["self"] := fun _ _ _ _ _ _ us hl => match us, hl with | [_], _ => rfl
theorem ok_Session_text_now (T : Txt K mg C) (D : DefM K C.se "text_now" "Session.text_now" s_Session_text_now) (c_Tree_here : CalM P w K mg base 1 C.tr "here" ["self"] (sp_Tree_here K C)) : CalM P w K mg base 2 C.se "text_now" ["self"] (sp_Session_text_now K C) := by
  refine D.cal b_Session_text_now fun f fd F => F.ok sc_Session_text_now (fun vs H Q E h => h.1) (fun cdv A outer s H vs Q E hr h => ?_)
  have hu := hu_of hr
  refine ⟨_, (pss_one (ps_ret (pe_ifExp (pt_val (pe_fld (pv 0) rfl)) (pe_fld (pv 0) rfl) (pe_fld (pm0 c_Tree_here T.cTr hr (by decide) (pe_fld (pv 0) rfl)) rfl)))), ?_⟩
  obtain ⟨_, G, M, rfl, ss, W, k⟩ := h
  obtain ⟨c, hcur⟩ := W.cur
  repeat walk_at "ub1"
  refine rdM_open T ss ?_
  repeat walk_at "ub1"
  cases hg : M.group with
  | some g =>
    refine iteT ?_
    repeat walk_at "ub1"
    refine rdM_draft T ss (cs := g.1) (t := g.2) hg fun da ht => k da ?_
    have e : M.textNow = g.2 := by
      unfold Se.textNow
      rw [hg]
    rw [e]
    exact ht
  | none =>
    refine iteF ?_
    repeat walk_at "ub1"
    refine rdM_tree T ss ?_
    refine mtT ss.tree ?_
    repeat walk_at "ub1"
    refine ⟨rfl, G, M.tree, c, rfl, ss.tree, hcur, ?_⟩
    refine rdS_text T ss.tree hcur fun ta ht => k ta ?_
    have e : M.textNow = c.text := by
      unfold Se.textNow
      rw [hg]
      exact textOf_of hcur
    rw [e]
    exact ht
def sp_Session_told_here (_K : PySem.W.Frag) (C : Cl) : Sp := fun vs H Q _ => vs.length = 1 ∧ ∃ (G : Gh) (M : Se), vs = [.ref G.s] ∧ SessAt C G H M ∧ WF M.tree ∧ ∀ p, H p = none → Q (.ref p) (upd H p (.lst ((toldHere M.tree).map V.int)))
abbrev s_Session_told_here : Stmt := inClass (topS 47) 9
theorem sc_Session_told_here : FnScope ["self"] ["self"] (defScope s_Session_told_here) := ⟨rfl, rfl, rfl, by decide +kernel, rfl, by decide +kernel, by decide +kernel⟩
theorem b_Session_told_here : Bind "told_here" "Session.told_here" s_Session_told_here ["self"] := fun _ _ _ _ _ _ us hl => match us, hl with | [_], _ => rfl
theorem ok_Session_told_here (T : Txt K mg C) (D : DefM K C.se "told_here" "Session.told_here" s_Session_told_here) (c_Tree_here : CalM P w K mg base 1 C.tr "here" ["self"] (sp_Tree_here K C)) : CalM P w K mg base 2 C.se "told_here" ["self"] (sp_Session_told_here K C) := by
  refine D.cal b_Session_told_here fun f fd F => F.ok sc_Session_told_here (fun vs H Q E h => h.1) (fun cdv A outer s H vs Q E hr h => ?_)
  have hu := hu_of hr
  refine ⟨_, (pss_one (ps_ret (pe_lst (pa_cons (pe_fld (pe_fld (pv 0) rfl) rfl) (pa_cons (pe_callB call_len_seq (by rfl) T.len PySem.boot_len (pa_cons (pe_fld (pm0 c_Tree_here T.cTr hr (by decide) (pe_fld (pv 0) rfl)) rfl) pa_nil)) pa_nil))))), ?_⟩
  obtain ⟨_, G, M, rfl, ss, W, k⟩ := h
  obtain ⟨c, hcur⟩ := W.cur
  repeat walk_at "ub1"
  refine rdM_tree T ss ?_
  refine rdT_current T ss.tree ?_
  repeat walk_at "ub1"
  refine rdM_tree T ss ?_
  refine mtT ss.tree ?_
  repeat walk_at "ub1"
  refine ⟨rfl, G, M.tree, c, rfl, ss.tree, hcur, ?_⟩
  refine rdS_text T ss.tree hcur fun ta ht => ?_
  repeat walk_at "ub1"
  refine ⟨ta, _, rfl, .inl (SqL.of ht.1), ?_⟩
  repeat walk_at "ub1"
  refine ⟨by show 2 ≤ sizeLine; decide, fun p hp => ?_⟩
  have := k p hp
  unfold toldHere at this
  rw [asInts_vInts, textOf_of hcur] at this
  rw [vInts_len]
  exact this
theorem mark_text {k : Nat} : ∀ (l : List (Nat × Nat)) {M : Tr} {x : Nd}, M.find k = some x → ∃ y, (mark M l).find k = some y ∧ y.text = x.text
  | [], _, x, h => ⟨x, h, rfl⟩
  | p :: l, M, x, hx => by
    obtain ⟨y, h1, h2⟩ := mark_text l (M := M.upd p.1 (setVis p.2)) (find_upd_some (nb_vis _) p.1 hx)
    exact ⟨y, h1, h2.trans (ite_al (g := fun x => x.text) (f := setVis p.2) (fun _ => rfl) p.1 x)⟩
def sp_Session_moved_to (_K : PySem.W.Frag) (C : Cl) : Sp := fun vs H Q _ => vs.length = 2 ∧ ∃ (G : Gh) (M : Se) (n : Nat) (x : Nd), vs = [.ref G.s, iV n] ∧ SessAt C G H M ∧ Fit M ∧ M.tree.find n = some x ∧
  ∀ H' p, SessAt C G H' (movedTo M n).1 → FrT G H H' → H' p = none → Q (.ref p) (upd H' p (.lst ((movedTo M n).2.map V.int)))
abbrev s_Session_moved_to : Stmt := inClass (topS 47) 10
theorem sc_Session_moved_to : FnScope ["self", "number", "steps"] ["self", "number"] (defScope s_Session_moved_to) := ⟨rfl, rfl, rfl, by decide +kernel, rfl, by decide +kernel, by decide +kernel⟩
theorem b_Session_moved_to : Bind "moved_to" "Session.moved_to" s_Session_moved_to ["self", "number"] := fun _ _ _ _ _ _ us hl => match us, hl with | [_, _], _ => rfl
theorem ok_Session_moved_to (T : Txt K mg C) (D : DefM K C.se "moved_to" "Session.moved_to" s_Session_moved_to) (c_Tree_here : CalM P w K mg base 1 C.tr "here" ["self"] (sp_Tree_here K C)) (c_Tree_visit : CalM P w K mg base 2 C.tr "visit" ["self", "number"] (sp_Tree_visit K C)) (c_steps_of : CalF P w K mg base 2 "steps_of" ["tree", "start", "goal"] (sp_steps_of K C)) : CalM P w K mg base 3 C.se "moved_to" ["self", "number"] (sp_Session_moved_to K C) := by
  refine D.cal b_Session_moved_to fun f fd F => F.ok sc_Session_moved_to (fun vs H Q E h => h.1) (fun cdv A outer s H vs Q E hr h => ?_)
  have hu := hu_of hr
  refine ⟨_, (pss_cons (ps_set (i := 2) sc_Session_moved_to.nd rfl (Or.inl rfl) (pf c_steps_of hr (by decide) (by rfl) (pa_cons (pe_fld (pv 0) rfl) (pa_cons (pe_fld (pe_fld (pv 0) rfl) rfl) (pa_cons (pv 1) pa_nil)))))
        (pss_cons (ps_expr (pm c_Tree_visit T.cTr hr (by decide) (pe_fld (pv 0) rfl) (pa_cons (pv 1) pa_nil)))
        (pss_one (ps_ret (pe_op op_cat (pv 2) (pe_lst (pa_cons (pe_callB call_len_seq (by rfl) T.len PySem.boot_len (pa_cons (pe_fld (pm0 c_Tree_here T.cTr hr (by decide) (pe_fld (pv 0) rfl)) rfl) pa_nil)) pa_nil))))))), ?_⟩
  obtain ⟨_, G, M, n, x, rfl, ss, ft, hx, k⟩ := h
  have W := ft.good.wf
  obtain ⟨c, hcur⟩ := W.cur
  repeat walk_at "ub1"
  refine rdM_tree T ss ?_
  repeat walk_at "ub1"
  refine rdM_tree T ss ?_
  refine rdT_current T ss.tree ?_
  repeat walk_at "ub1"
  refine ⟨rfl, G, M.tree, M.tree.current, n, c, x, rfl, ss.tree, W, ft.sm, hcur, hx, fun H1 p1 s1 n1 e1 => ?_⟩
  have ss1 := ss.same s1
  repeat walk_at "ub1"
  refine rdM_tree T ss1 ?_
  refine mtT ss1.tree ?_
  repeat walk_at "ub1"
  refine ⟨rfl, G, M.tree, n, x, rfl, ss1.tree, W, ft.sm, hx, fun H2 tr2 f2 => ?_⟩
  have ss2 := ss1.turn f2 tr2
  have e2 := f2 _ _ e1 (by rw [ss.tree.lok p1 n1]; rfl)
  obtain ⟨y, hy, ty⟩ := mark_text ((wayTo M.tree n).zip (wayTo M.tree n).tail) hx
  repeat walk_at "ub1"
  refine rdM_tree T ss2 ?_
  refine mtT tr2 ?_
  repeat walk_at "ub1"
  refine ⟨rfl, G, visit M.tree n, y, rfl, tr2, hy, ?_⟩
  refine rdS_text T tr2 hy fun ta ht => ?_
  repeat walk_at "ub1"
  refine ⟨ta, _, rfl, .inl (SqL.of ht.1), ?_⟩
  repeat walk_at "ub1"
  refine ⟨by show 1 ≤ sizeLine; decide, fun p3 n3 => ?_⟩
  have s3 := Same.new (o := .lst [V.int (((vInts y.text).length : Nat) : Int)]) n3
  repeat walk_at "ub1"
  refine ⟨p1, p3, _, _, rfl, rfl, s3 _ _ e2, upd_same, by show 3 ≤ sizeLine; decide, fun p4 n4 => ?_⟩
  have := k _ p4 (ss2.same s3) (((FrT.of s1).trans f2).trans (FrT.of s3)) n4
  have el : vInts [stepsUp M.tree M.tree.current n, stepsDown M.tree M.tree.current n] ++ [V.int (((vInts y.text).length : Nat) : Int)] = (movedTo M n).2.map V.int := by
    unfold movedTo
    rw [asInts_vInts, vInts_len, ty, textOf_of hx]
    rfl
  rw [el]
  exact this
end
/-! ### operations: moving -/
section
variable {P : Program} {w : World} {K : PySem.W.Frag} {mg : Str → Option Value} {base : Heap} {C : Cl}
theorem alone_some {M : Se} {g} (hg : M.group = some g) (x : Ans) : alone M x = (M, [-9]) := by
  unfold alone
  rw [hg]
  rfl
theorem alone_none {M : Se} (hg : M.group = none) (x : Ans) : alone M x = x := by
  unfold alone
  rw [hg]
  rfl
theorem one_line : 1 ≤ sizeLine := by decide
theorem two_line : 2 ≤ sizeLine := by decide
/-- what an operation of no number, of one, asks -/
def spOp0 (f : Se → Ans) (C : Cl) : Sp := fun vs H Q _ => vs.length = 1 ∧ ∃ (G : Gh) (M : Se), vs = [.ref G.s] ∧ SessAt C G H M ∧ Fit M ∧ Ret C G H Q (f M)
def spOp1 (f : Se → Nat → Ans) (C : Cl) : Sp := fun vs H Q _ => vs.length = 2 ∧ ∃ (G : Gh) (M : Se) (n : Nat), vs = [.ref G.s, iV n] ∧ SessAt C G H M ∧ Fit M ∧ Ret C G H Q (f M n)
def sp_Session_wait (_K : PySem.W.Frag) (C : Cl) : Sp := spOp1 oWait C
abbrev s_Session_wait : Stmt := inClass (topS 47) 3
theorem sc_Session_wait : FnScope ["self", "ticks"] ["self", "ticks"] (defScope s_Session_wait) := ⟨rfl, rfl, rfl, by decide +kernel, rfl, by decide +kernel, by decide +kernel⟩
theorem b_Session_wait : Bind "wait" "Session.wait" s_Session_wait ["self", "ticks"] := fun _ _ _ _ _ _ us hl => match us, hl with | [_, _], _ => rfl
theorem ok_Session_wait (T : Txt K mg C) (D : DefM K C.se "wait" "Session.wait" s_Session_wait) : CalM P w K mg base 1 C.se "wait" ["self", "ticks"] (sp_Session_wait K C) := by
  refine D.cal b_Session_wait fun f fd F => F.ok sc_Session_wait (fun vs H Q E h => h.1) (fun cdv A outer s H vs Q E hr h => ?_)
  have hu := hu_of hr
  refine ⟨_, (pss_cons (ps_if (pt_cmpR op_gt (pe_op op_add (pe_fld (pv 0) rfl) (pv 1)) (pk T.kMOST_CLOCK rfl) (nomark _)) (pss_one (ps_ret (pe_lst (pa_cons (pk T.kOUT_OF_RANGE rfl) pa_nil)))) pss_nil)
        (pss_cons (ps_fld (pv 0) (pe_op op_add (pe_fld (pv 0) rfl) (pv 1)) rfl)
        (pss_one (ps_ret (pe_lst (pa_cons (pe_fld (pv 0) rfl) pa_nil)))))), ?_⟩
  obtain ⟨_, G, M, n, rfl, ss, ft, k⟩ := h
  unfold oWait at k
  repeat walk_at "ub1"
  refine rdM_clock T ss ?_
  repeat walk_at "ub1"
  refine ite_dec (fun c => ?_) (fun c => ?_)
  · rw [if_pos (by omega)] at k
    repeat walk_at "ub1"
    exact ⟨one_line, fun p hp => k.new rfl ss FrO.refl hp rfl⟩
  · rw [if_neg (by omega)] at k
    repeat walk_at "ub1"
    refine rdM_clock T ss ?_
    repeat walk_at "ub1"
    obtain ⟨dx, g, d, e, _, kk⟩ := ss.obj
    refine i_st e T.cSe T.nClock (by show 5 < 1000; decide) ?_
    obtain ⟨s1, f1⟩ := ss.put (M' := { M with clock := M.clock + n }) (dx := dx) (fs := seF G.t (M.clock + n) M.group.isSome g d) rfl ⟨g, d, rfl, kk⟩
    have ep : putF "clock" (V.int ((M.clock : Int) + (n : Int))) (seF G.t M.clock M.group.isSome g d) = seF G.t (M.clock + n) M.group.isSome g d := rfl
    rw [ep]
    repeat walk_at "ub1"
    refine rdM_clock T s1 ?_
    repeat walk_at "ub1"
    exact ⟨one_line, fun p hp => k.new rfl s1 f1 hp rfl⟩
theorem isEmpty_f {l : List Nat} (h : l ≠ []) : l.isEmpty = false := by
  cases l with
  | nil => exact absurd rfl h
  | cons a l => rfl
def sp_Session_undo (_K : PySem.W.Frag) (C : Cl) : Sp := spOp0 oUndo C
abbrev s_Session_undo : Stmt := inClass (topS 47) 7
theorem sc_Session_undo : FnScope ["self"] ["self"] (defScope s_Session_undo) := ⟨rfl, rfl, rfl, by decide +kernel, rfl, by decide +kernel, by decide +kernel⟩
theorem b_Session_undo : Bind "undo" "Session.undo" s_Session_undo ["self"] := fun _ _ _ _ _ _ us hl => match us, hl with | [_], _ => rfl
theorem ok_Session_undo (T : Txt K mg C) (D : DefM K C.se "undo" "Session.undo" s_Session_undo) (c_Session_told_here : CalM P w K mg base 2 C.se "told_here" ["self"] (sp_Session_told_here K C)) (c_Tree_here : CalM P w K mg base 1 C.tr "here" ["self"] (sp_Tree_here K C)) : CalM P w K mg base 3 C.se "undo" ["self"] (sp_Session_undo K C) := by
  refine D.cal b_Session_undo fun f fd F => F.ok sc_Session_undo (fun vs H Q E h => h.1) (fun cdv A outer s H vs Q E hr h => ?_)
  have hu := hu_of hr
  refine ⟨_, (pss_cons (ps_if (pt_val (pe_fld (pv 0) rfl)) (pss_one (ps_ret (pe_lst (pa_cons (pk T.kGROUP rfl) pa_nil)))) pss_nil)
        (pss_cons (ps_if (pt_cmpR op_eq (pe_fld (pe_fld (pv 0) rfl) rfl) (pe_fld (pe_fld (pv 0) rfl) rfl) (nomark _)) (pss_one (ps_ret (pe_lst (pa_cons (pk T.kNOWHERE rfl) pa_nil)))) pss_nil)
        (pss_cons (ps_fld (pe_fld (pv 0) rfl) (pe_fld (pm0 c_Tree_here T.cTr hr (by decide) (pe_fld (pv 0) rfl)) rfl) rfl)
        (pss_one (ps_ret (pm0 c_Session_told_here T.cSe hr (by decide) (pv 0))))))), ?_⟩
  obtain ⟨_, G, M, rfl, ss, ft, k⟩ := h
  have W := ft.good.wf
  obtain ⟨c, hcur⟩ := W.cur
  unfold oUndo at k
  repeat walk_at "ub1"
  refine rdM_open T ss ?_
  repeat walk_at "ub1"
  cases hg : M.group with
  | some g =>
    rw [alone_some hg] at k
    refine iteT ?_
    repeat walk_at "ub1"
    exact ⟨one_line, fun p hp => k.new rfl ss FrO.refl hp rfl⟩
  | none =>
    rw [alone_none hg] at k
    refine iteF ?_
    repeat walk_at "ub1"
    refine rdM_tree T ss ?_
    refine rdT_current T ss.tree ?_
    repeat walk_at "ub1"
    refine rdM_tree T ss ?_
    refine rdT_root T ss.tree ?_
    repeat walk_at "ub1"
    refine ite_dec (fun e => ?_) (fun e => ?_)
    · rw [if_pos (by omega)] at k
      repeat walk_at "ub1"
      exact ⟨one_line, fun p hp => k.new rfl ss FrO.refl hp rfl⟩
    · have ne : M.tree.current ≠ M.tree.root := fun z => e (by rw [z])
      obtain ⟨m, ec⟩ := mem_of_find hcur
      obtain ⟨q, y, hq, _, hy, _⟩ := W.up c m (by rw [ec]; exact ne)
      rw [if_neg ne, hcur] at k
      have k2 : Ret C G H Q ({ M with tree := { M.tree with current := q } }, toldHere { M.tree with current := q }) := by
        have k' : Ret C G H Q (match c.parent with | some p => ({ M with tree := { M.tree with current := p } }, toldHere { M.tree with current := p }) | none => (M, [])) := k
        rw [hq] at k'
        exact k'
      repeat walk_at "ub1"
      refine rdM_tree T ss ?_
      refine mtT ss.tree ?_
      repeat walk_at "ub1"
      refine ⟨rfl, G, M.tree, c, rfl, ss.tree, hcur, ?_⟩
      refine rdS_parent T ss.tree hcur ?_
      rw [hq]
      repeat walk_at "ub1"
      refine rdM_tree T ss ?_
      refine stT T (M' := { M.tree with current := q }) T.nCurrent ss.tree rfl (fun d => rfl) fun H1 tr1 f1 => ?_
      have ss1 := ss.turn f1 tr1
      repeat walk_at "ub1"
      refine mtM ss1 ?_
      repeat walk_at "ub1"
      refine ⟨rfl, G, _, rfl, ss1, wf_cur W hy, fun p hp => ?_⟩
      exact k2.new rfl ss1 f1.fro hp rfl
def sp_Session_redo (_K : PySem.W.Frag) (C : Cl) : Sp := spOp0 oRedo C
abbrev s_Session_redo : Stmt := inClass (topS 47) 8
theorem sc_Session_redo : FnScope ["self", "state"] ["self"] (defScope s_Session_redo) := ⟨rfl, rfl, rfl, by decide +kernel, rfl, by decide +kernel, by decide +kernel⟩
theorem b_Session_redo : Bind "redo" "Session.redo" s_Session_redo ["self"] := fun _ _ _ _ _ _ us hl => match us, hl with | [_], _ => rfl
theorem ok_Session_redo (T : Txt K mg C) (D : DefM K C.se "redo" "Session.redo" s_Session_redo) (c_Session_told_here : CalM P w K mg base 2 C.se "told_here" ["self"] (sp_Session_told_here K C)) (c_State_preferred : CalM P w K mg base 1 C.st "preferred" ["self"] (sp_State_preferred K C)) (c_Tree_here : CalM P w K mg base 1 C.tr "here" ["self"] (sp_Tree_here K C)) : CalM P w K mg base 3 C.se "redo" ["self"] (sp_Session_redo K C) := by
  refine D.cal b_Session_redo fun f fd F => F.ok sc_Session_redo (fun vs H Q E h => h.1) (fun cdv A outer s H vs Q E hr h => ?_)
  have hu := hu_of hr
  refine ⟨_, (pss_cons (ps_if (pt_val (pe_fld (pv 0) rfl)) (pss_one (ps_ret (pe_lst (pa_cons (pk T.kGROUP rfl) pa_nil)))) pss_nil)
        (pss_cons (ps_set (i := 1) sc_Session_redo.nd rfl (Or.inl rfl) (pm0 c_Tree_here T.cTr hr (by decide) (pe_fld (pv 0) rfl)))
        (pss_cons (ps_if (pt_cmpR (op_eqE hr.units) (pe_fld (pv 1) rfl) (pe_lst pa_nil) (nomark _)) (pss_one (ps_ret (pe_lst (pa_cons (pk T.kNOWHERE rfl) pa_nil)))) pss_nil)
        (pss_cons (ps_fld (pv 1) (pm0 c_State_preferred T.cSt hr (by decide) (pv 1)) rfl)
        (pss_cons (ps_fld (pe_fld (pv 0) rfl) (pe_fld (pv 1) rfl) rfl)
        (pss_one (ps_ret (pm0 c_Session_told_here T.cSe hr (by decide) (pv 0))))))))), ?_⟩
  obtain ⟨_, G, M, rfl, ss, ft, k⟩ := h
  have W := ft.good.wf
  obtain ⟨c, hcur⟩ := W.cur
  unfold oRedo at k
  rw [hcur] at k
  repeat walk_at "ub1"
  refine rdM_open T ss ?_
  repeat walk_at "ub1"
  cases hg : M.group with
  | some g =>
    rw [alone_some hg] at k
    refine iteT ?_
    repeat walk_at "ub1"
    exact ⟨one_line, fun p hp => k.new rfl ss FrO.refl hp rfl⟩
  | none =>
    rw [alone_none hg] at k
    refine iteF ?_
    repeat walk_at "ub1"
    refine rdM_tree T ss ?_
    refine mtT ss.tree ?_
    repeat walk_at "ub1"
    refine ⟨rfl, G, M.tree, c, rfl, ss.tree, hcur, ?_⟩
    repeat walk_at "ub1"
    refine rdS_children T ss.tree hcur fun ka h1 _ => ?_
    repeat walk_at "ub1"
    refine ⟨Nat.zero_le _, fun pe he => ?_⟩
    have s1 := Same.new (o := .lst []) he
    have ss1 := ss.same s1
    refine ⟨ka, pe, _, rfl, rfl, SqL.of (s1 _ _ h1), SqL.of upd_same, ?_⟩
    generalize upd H pe (.lst []) = H1 at *
    rw [vInts_emp]
    repeat walk_at "ub1"
    refine ite_b (fun e => ?_) (fun e => ?_)
    · have k' : Ret C G H Q (if c.children.isEmpty = true then (M, [-7]) else ({ M with tree := redoT M.tree c }, toldHere (redoT M.tree c))) := k
      rw [if_pos e] at k'
      repeat walk_at "ub1"
      exact ⟨one_line, fun p hp => k'.new rfl ss1 (Same.fro s1) hp rfl⟩
    · have k' : Ret C G H Q (if c.children.isEmpty = true then (M, [-7]) else ({ M with tree := redoT M.tree c }, toldHere (redoT M.tree c))) := k
      rw [if_neg (by rw [e]; exact Bool.false_ne_true)] at k'
      have hne : c.children ≠ [] := fun z => by rw [z] at e; cases e
      obtain ⟨y, hy, _⟩ := kid_mem W (mem_of_find hcur).1 (preferred_mem hne)
      repeat walk_at "ub1"
      refine mtS ss1.tree hcur ?_
      repeat walk_at "ub1"
      refine ⟨rfl, G, M.tree, M.tree.current, c, rfl, ss1.tree, hcur, hne, ?_⟩
      repeat walk_at "ub1"
      refine stS T T.nVisited ss1.tree W.inc hcur (nb_vis c.preferred) ⟨rfl, rfl, rfl⟩ (fun _ _ _ => rfl) fun H2 tr2 f2 => ?_
      have ss2 := ss1.turn f2 tr2
      have hcur2 := find_upd_eq (nb_vis c.preferred) hcur
      repeat walk_at "ub1"
      refine rdS_visited T tr2 hcur2 ?_
      repeat walk_at "ub1"
      refine rdM_tree T ss2 ?_
      refine stT T (M' := redoT M.tree c) T.nCurrent tr2 rfl (fun d => rfl) fun H3 tr3 f3 => ?_
      have ss3 := ss1.turn (f2.trans f3) tr3
      have W3 : WF (redoT M.tree c) := wf_cur (wf_upd W (al_vis _) _) (find_upd_some (nb_vis _) _ hy)
      repeat walk_at "ub1"
      refine mtM ss3 ?_
      repeat walk_at "ub1"
      refine ⟨rfl, G, _, rfl, ss3, W3, fun p hp => ?_⟩
      exact k'.new rfl ss3 ((Same.fro s1).trans (f2.trans f3).fro) hp rfl
def sp_Session_go_to (_K : PySem.W.Frag) (C : Cl) : Sp := spOp1 oGoto C
abbrev s_Session_go_to : Stmt := inClass (topS 47) 11
theorem sc_Session_go_to : FnScope ["self", "number"] ["self", "number"] (defScope s_Session_go_to) := ⟨rfl, rfl, rfl, by decide +kernel, rfl, by decide +kernel, by decide +kernel⟩
theorem b_Session_go_to : Bind "go_to" "Session.go_to" s_Session_go_to ["self", "number"] := fun _ _ _ _ _ _ us hl => match us, hl with | [_, _], _ => rfl
theorem ok_Session_go_to (T : Txt K mg C) (D : DefM K C.se "go_to" "Session.go_to" s_Session_go_to) (c_Tree_has : CalM P w K mg base 1 C.tr "has" ["self", "number"] (sp_Tree_has K C)) (c_Session_moved_to : CalM P w K mg base 3 C.se "moved_to" ["self", "number"] (sp_Session_moved_to K C)) : CalM P w K mg base 4 C.se "go_to" ["self", "number"] (sp_Session_go_to K C) := by
  refine D.cal b_Session_go_to fun f fd F => F.ok sc_Session_go_to (fun vs H Q E h => h.1) (fun cdv A outer s H vs Q E hr h => ?_)
  have hu := hu_of hr
  refine ⟨_, (pss_cons (ps_if (pt_val (pe_fld (pv 0) rfl)) (pss_one (ps_ret (pe_lst (pa_cons (pk T.kGROUP rfl) pa_nil)))) pss_nil)
        (pss_one (ps_ret (pe_ifExp (pt_val (pm c_Tree_has T.cTr hr (by decide) (pe_fld (pv 0) rfl) (pa_cons (pv 1) pa_nil))) (pm c_Session_moved_to T.cSe hr (by decide) (pv 0) (pa_cons (pv 1) pa_nil)) (pe_lst (pa_cons (pk T.kNO_STATE rfl) pa_nil)))))), ?_⟩
  obtain ⟨_, G, M, n, rfl, ss, ft, k⟩ := h
  unfold oGoto at k
  repeat walk_at "ub1"
  refine rdM_open T ss ?_
  repeat walk_at "ub1"
  cases hg : M.group with
  | some g =>
    rw [alone_some hg] at k
    refine iteT ?_
    repeat walk_at "ub1"
    exact ⟨one_line, fun p hp => k.new rfl ss FrO.refl hp rfl⟩
  | none =>
    rw [alone_none hg] at k
    refine iteF ?_
    repeat walk_at "ub1"
    refine rdM_tree T ss ?_
    refine mtT ss.tree ?_
    repeat walk_at "ub1"
    refine ⟨rfl, G, M.tree, n, rfl, ss.tree, ?_⟩
    repeat walk_at "ub1"
    refine ite_b (fun e => ?_) (fun e => ?_)
    · rw [if_pos e] at k
      obtain ⟨x, hx⟩ := has_iff.mp e
      repeat walk_at "ub1"
      refine mtM ss ?_
      repeat walk_at "ub1"
      refine ⟨rfl, G, M, n, x, rfl, ss, ft, hx, fun H1 p s1 f1 hp => ?_⟩
      exact k.new rfl s1 f1.fro hp rfl
    · rw [if_neg (by rw [e]; exact Bool.false_ne_true)] at k
      repeat walk_at "ub1"
      exact ⟨one_line, fun p hp => k.new rfl ss FrO.refl hp rfl⟩
def sp_Session_moved_among (_K : PySem.W.Frag) (C : Cl) : Sp := fun vs H Q _ => vs.length = 3 ∧ ∃ (G : Gh) (M : Se) (a : Addr) (l : List Nat) (n : Nat), vs = [.ref G.s, .ref a, iV n] ∧ SessAt C G H M ∧ Fit M ∧ H a = some (.lst (vInts l)) ∧ (∀ k ∈ l, ∃ x, M.tree.find k = some x) ∧ Ret C G H Q (movedAmong M l n)
abbrev s_Session_moved_among : Stmt := inClass (topS 47) 12
theorem sc_Session_moved_among : FnScope ["self", "some", "n", "number"] ["self", "some", "n"] (defScope s_Session_moved_among) := ⟨rfl, rfl, rfl, by decide +kernel, rfl, by decide +kernel, by decide +kernel⟩
theorem b_Session_moved_among : Bind "moved_among" "Session.moved_among" s_Session_moved_among ["self", "some", "n"] := fun _ _ _ _ _ _ us hl => match us, hl with | [_, _, _], _ => rfl
theorem ok_Session_moved_among (T : Txt K mg C) (D : DefM K C.se "moved_among" "Session.moved_among" s_Session_moved_among) (c_Session_moved_to : CalM P w K mg base 3 C.se "moved_to" ["self", "number"] (sp_Session_moved_to K C)) : CalM P w K mg base 4 C.se "moved_among" ["self", "some", "n"] (sp_Session_moved_among K C) := by
  refine D.cal b_Session_moved_among fun f fd F => F.ok sc_Session_moved_among (fun vs H Q E h => h.1) (fun cdv A outer s H vs Q E hr h => ?_)
  have hu := hu_of hr
  refine ⟨_, (pss_cons (ps_if (pt_val (pe_fld (pv 0) rfl)) (pss_one (ps_ret (pe_lst (pa_cons (pk T.kGROUP rfl) pa_nil)))) pss_nil)
        (pss_cons (ps_if (pt_cmpR op_eq (pv 2) pe_int (nomark _)) (pss_one (ps_ret (pe_lst (pa_cons (pk T.kOUT_OF_RANGE rfl) pa_nil)))) pss_nil)
        (pss_cons (ps_if (pt_cmpR op_lt (pe_callB call_len_seq (by rfl) T.len PySem.boot_len (pa_cons (pv 1) pa_nil)) (pv 2) (nomark _)) (pss_one (ps_ret (pe_lst (pa_cons (pk T.kNOWHERE rfl) pa_nil)))) pss_nil)
        (pss_cons (ps_set (i := 3) sc_Session_moved_among.nd rfl (Or.inl rfl) (pe_ix ix_list (pv 1) (pe_op op_sub (pv 2) pe_int) (fun _ _ => rfl)))
        (pss_one (ps_ret (pe_op op_cat (pe_lst (pa_cons (pv 3) pa_nil)) (pm c_Session_moved_to T.cSe hr (by decide) (pv 0) (pa_cons (pv 3) pa_nil))))))))), ?_⟩
  obtain ⟨_, G, M, a, l, n, rfl, ss, ft, ha, hl, k⟩ := h
  unfold movedAmong at k
  repeat walk_at "ub1"
  refine rdM_open T ss ?_
  repeat walk_at "ub1"
  cases hg : M.group with
  | some g =>
    rw [alone_some hg] at k
    refine iteT ?_
    repeat walk_at "ub1"
    exact ⟨one_line, fun p hp => k.new rfl ss FrO.refl hp rfl⟩
  | none =>
    rw [alone_none hg] at k
    refine iteF ?_
    repeat walk_at "ub1"
    refine ite_dec (fun e => ?_) (fun e => ?_)
    · rw [if_pos (by omega)] at k
      repeat walk_at "ub1"
      exact ⟨one_line, fun p hp => k.new rfl ss FrO.refl hp rfl⟩
    · rw [if_neg (by omega)] at k
      repeat walk_at "ub1"
      refine ⟨a, _, rfl, .inl (SqL.of ha), ?_⟩
      repeat walk_at "ub1"
      rw [vInts_len]
      refine ite_dec (fun e2 => ?_) (fun e2 => ?_)
      · have e3 : l[n - 1]? = none := List.getElem?_eq_none (by omega)
        rw [e3] at k
        repeat walk_at "ub1"
        exact ⟨one_line, fun p hp => k.new rfl ss FrO.refl hp rfl⟩
      · have hlt : n - 1 < l.length := by omega
        have e3 : l[n - 1]? = some l[n - 1] := List.getElem?_eq_getElem hlt
        generalize l[n - 1] = j at e3
        obtain ⟨x, hx⟩ := hl j (List.mem_of_getElem? e3)
        rw [e3] at k
        repeat walk_at "ub1"
        refine ⟨a, _, _, iV j, rfl, rfl, SqL.of ha, at_of (j := n - 1) (by omega) (by unfold vInts; rw [List.getElem?_map, e3]; rfl), ?_⟩
        repeat walk_at "ub1"
        refine ⟨one_line, fun p1 n1 => ?_⟩
        have s1 := Same.new (o := .lst [iV j]) n1
        have ss1 := ss.same s1
        repeat walk_at "ub1"
        refine mtM ss1 ?_
        repeat walk_at "ub1"
        refine ⟨rfl, G, M, j, x, rfl, ss1, ft, hx, fun H2 p2 ss2 f2 n2 => ?_⟩
        have l1 : isT (G.L p1) = false := by rw [ss.tree.lok p1 n1]; rfl
        have e5 : H2 p1 = some (.lst [iV j]) := f2 _ _ upd_same l1
        have s3 := Same.new (o := .lst ((movedTo M j).2.map V.int)) n2
        refine ⟨p1, p2, _, _, rfl, rfl, s3 _ _ e5, upd_same, by rw [List.length_map]; show 4 ≤ sizeLine; decide, fun p3 n3 => ?_⟩
        exact k.new rfl (ss2.same s3) (((Same.fro s1).trans f2.fro).trans (Same.fro s3)) n3 rfl
end
/-! ### operations: making -/
section
variable {P : Program} {w : World} {K : PySem.W.Frag} {mg : Str → Option Value} {base : Heap} {C : Cl}
def sp_Session_init (_K : PySem.W.Frag) (C : Cl) : Sp := fun vs H Q _ => vs.length = 1 ∧ ∃ (p dx : Addr), vs = [.ref p] ∧ H p = some (.ins C.se dx []) ∧
  ∀ (H' : Hp) (G : Gh), G.s = p → SessAt C G H' Se.init → (∀ b u, H b = some u → b ≠ p → H' b = some u ∧ G.L b = none) → Q .non H'
abbrev s_Session_init : Stmt := inClass (topS 47) 0
theorem sc_Session_init : FnScope ["self"] ["self"] (defScope s_Session_init) := ⟨rfl, rfl, rfl, by decide +kernel, rfl, by decide +kernel, by decide +kernel⟩
theorem b_Session_init : Bind "__init__" "Session.__init__" s_Session_init ["self"] := fun _ _ _ _ _ _ us hl => match us, hl with | [_], _ => rfl
theorem ok_Session_init (T : Txt K mg C) (D : DefI K C.se "Session.__init__" s_Session_init) (c_Tree_init : CalI P w K mg base 3 C.tr ["self", "text"] (sp_Tree_init K C)) : CalI P w K mg base 5 C.se ["self"] (sp_Session_init K C) := by
  refine D.cal b_Session_init fun f fd F => F.ok sc_Session_init (fun vs H Q E h => h.1) (fun cdv A outer s H vs Q E hr h => ?_)
  have hu := hu_of hr
  refine ⟨_, (pss_cons (ps_fld (pv 0) (pi_ c_Tree_init hr (by decide) (by rfl) T.gTr (pa_cons (pe_lst pa_nil) pa_nil)) rfl)
        (pss_cons (ps_fld (pv 0) pe_int rfl)
        (pss_cons (ps_fld (pv 0) pe_bl rfl)
        (pss_cons (ps_fld (pv 0) (pe_lst pa_nil) rfl)
        (pss_one (ps_fld (pv 0) (pe_lst pa_nil) rfl)))))), ?_⟩
  obtain ⟨_, p, dx, rfl, hp, k⟩ := h
  repeat walk_at "ub1"
  refine ⟨Nat.zero_le _, fun ta hta => ?_⟩
  repeat walk_at "ub1"
  intro x dxt hx hdx ndx
  have npt : p ≠ ta := ne_of_none hp hta
  have nxt : x ≠ ta := fun e => by rw [e, upd_same] at hx; cases hx
  have nx : H x = none := by rwa [upd_ne nxt] at hx
  have ndt : dxt ≠ ta := fun e => by rw [e, upd_same] at hdx; cases hdx
  have nd : H dxt = none := by rwa [upd_ne ndt] at hdx
  have npx : p ≠ x := ne_of_none hp nx
  have npd : p ≠ dxt := ne_of_none hp nd
  refine ⟨rfl, x, dxt, ta, p, [], (fun b => if b = p then some .sess else none), rfl, upd_same, ?_, if_neg npt.symm, fun b hb => if_neg fun e => ?_, fun H1 G et es tr old => ⟨rfl, ?_⟩⟩
  · rw [upd_ne nxt.symm, upd_ne ndt.symm, upd_same]
    rfl
  · rw [e, upd_ne npx, upd_ne npd, upd_ne npt, hp] at hb
    cases hb
  have old2 : ∀ b u, H b = some u → H1 b = some u ∧ G.L b = if b = p then some .sess else none := fun b u e =>
    old b u (by rw [upd_ne (ne_of_none e nx), upd_ne (ne_of_none e nd), upd_ne (ne_of_none e hta)]; exact e) (ne_of_none e nx)
  obtain ⟨hp1, lp⟩ := old2 p _ hp
  rw [if_pos rfl] at lp
  repeat walk_at "ub1"
  refine i_st hp1 T.cSe T.nTree (by decide) ?_
  repeat walk_at "ub1"
  refine i_st upd_same T.cSe T.nClock (by show 1 < 1000; decide) ?_
  repeat walk_at "ub1"
  refine i_st upd_same T.cSe T.nOpen (by show 2 < 1000; decide) ?_
  simp only [upd_upd]
  repeat walk_at "ub1"
  refine ⟨Nat.zero_le _, fun g hg => ?_⟩
  have npg : p ≠ g := ne_of_none upd_same hg
  have ng : H1 g = none := by rwa [upd_ne npg.symm] at hg
  repeat walk_at "ub1"
  refine i_st (Eq.trans (upd_ne npg) upd_same) T.cSe T.nGrouped (by show 3 < 1000; decide) ?_
  repeat walk_at "ub1"
  refine ⟨Nat.zero_le _, fun d hd => ?_⟩
  have npd2 : p ≠ d := ne_of_none upd_same hd
  have ngd : g ≠ d := fun e => by rw [← e, upd_ne npg.symm, upd_same] at hd; cases hd
  have nd1 : H1 d = none := by rwa [upd_ne npd2.symm, upd_ne ngd.symm, upd_ne npd2.symm] at hd
  repeat walk_at "ub1"
  refine i_st (Eq.trans (upd_ne npd2) upd_same) T.cSe T.nDraft (by show 4 < 1000; decide) ?_
  subst es
  refine k _ G rfl ⟨⟨dx, .ref g, .ref d, ?_, lp, fun cs t e => by cases e⟩, ?_⟩ fun b u e hb => ⟨?_, ?_⟩
  · rw [upd_same, ← et]
    rfl
  · have t1 := tr.poke lp rfl (.ins C.se dx (putF "is_open" (V.bl false) (putF "clock" (V.int 0) (putF "tree" (V.ref x) []))))
    have t2 := t1.same (Same.new (o := .lst []) hg)
    have t3 := t2.poke lp rfl (.ins C.se dx (putF "grouped" (V.ref g) (putF "is_open" (V.bl false) (putF "clock" (V.int 0) (putF "tree" (V.ref x) [])))))
    have t4 := t3.same (Same.new (o := .lst []) hd)
    exact t4.poke lp rfl _
  · rw [upd_ne hb, upd_ne (ne_of_none (old2 b u e).1 nd1), upd_ne hb, upd_ne (ne_of_none (old2 b u e).1 ng), upd_ne hb]
    exact (old2 b u e).1
  · rw [(old2 b u e).2, if_neg hb]
/-- what an operation of a row asks -/
def sp_Session_start (_K : PySem.W.Frag) (C : Cl) : Sp := fun vs H Q _ => vs.length = 2 ∧ ∃ (G : Gh) (M : Se) (a : Addr) (row : List Nat), vs = [.ref G.s, .ref a] ∧ SessAt C G H M ∧ H a = some (.lst (vInts row)) ∧ row.length ≤ 350 ∧ Ret C G H Q (oStart M row)
abbrev s_Session_start : Stmt := inClass (topS 47) 2
theorem sc_Session_start : FnScope ["self", "row"] ["self", "row"] (defScope s_Session_start) := ⟨rfl, rfl, rfl, by decide +kernel, rfl, by decide +kernel, by decide +kernel⟩
theorem b_Session_start : Bind "start" "Session.start" s_Session_start ["self", "row"] := fun _ _ _ _ _ _ us hl => match us, hl with | [_, _], _ => rfl
theorem ok_Session_start (T : Txt K mg C) (D : DefM K C.se "start" "Session.start" s_Session_start) (c_Tree_init : CalI P w K mg base 3 C.tr ["self", "text"] (sp_Tree_init K C)) (c_are_bytes : CalF P w K mg base 1 "are_bytes" ["row"] (sp_are_bytes K C)) : CalM P w K mg base 5 C.se "start" ["self", "row"] (sp_Session_start K C) := by
  refine D.cal b_Session_start fun f fd F => F.ok sc_Session_start (fun vs H Q E h => h.1) (fun cdv A outer s H vs Q E hr h => ?_)
  have hu := hu_of hr
  refine ⟨_, (pss_cons (ps_if (PW.pt (pw_or (pt_cmpR op_gt (pe_callB call_len_seq (by rfl) T.len PySem.boot_len (pa_cons (pv 1) pa_nil)) (pk T.kMOST_BYTES rfl) (nomark _)) (pw_or1 (pt_not (pt_val (pf c_are_bytes hr (by decide) (by rfl) (pa_cons (pv 1) pa_nil))))))) (pss_one (ps_ret (pe_lst (pa_cons (pk T.kOUT_OF_RANGE rfl) pa_nil)))) pss_nil)
        (pss_cons (ps_fld (pv 0) (pi_ c_Tree_init hr (by decide) (by rfl) T.gTr (pa_cons (pe_callTy call_list_of (by rfl) T.list (by decide +kernel) (pa_cons (pv 1) pa_nil)) pa_nil)) rfl)
        (pss_cons (ps_fld (pv 0) pe_int rfl)
        (pss_cons (ps_fld (pv 0) pe_bl rfl)
        (pss_one (ps_ret (pe_lst (pa_cons (pe_callB call_len_seq (by rfl) T.len PySem.boot_len (pa_cons (pv 1) pa_nil)) pa_nil)))))))), ?_⟩
  obtain ⟨_, G, M, a, row, rfl, ss, ha, hl, k⟩ := h
  obtain ⟨dx, g0, d0, eo, lo, _⟩ := ss.obj
  unfold oStart at k
  repeat walk_at "ub1"
  refine ⟨a, _, rfl, .inl (SqL.of ha), ?_⟩
  repeat walk_at "ub1"
  rw [vInts_len]
  refine ite_dec (fun c => ?_) (fun c => ?_)
  · rw [if_pos (.inl (by omega))] at k
    repeat walk_at "ub1"
    exact ⟨one_line, fun p hp => k.new rfl ss FrO.refl hp rfl⟩
  · repeat walk_at "ub1"
    refine ⟨rfl, a, row, rfl, ha, by omega, fun H1 s1 => ?_⟩
    have ss1 := ss.same s1
    repeat walk_at "ub1"
    refine ite_nb (fun c2 => ?_) (fun c2 => ?_)
    · rw [if_pos (.inr c2)] at k
      repeat walk_at "ub1"
      exact ⟨one_line, fun p hp => k.new rfl ss1 (Same.fro s1) hp rfl⟩
    · rw [if_neg (not_or.mpr ⟨by omega, by rw [c2]; simp⟩)] at k
      repeat walk_at "ub1"
      refine ⟨a, _, rfl, .inl (SqL.of (s1 _ _ ha)), fun ta hta => ?_⟩
      repeat walk_at "ub1"
      intro x dxt hx hdx ndx
      have nxt : x ≠ ta := fun e => by rw [e, upd_same] at hx; cases hx
      have nx : H1 x = none := by rwa [upd_ne nxt] at hx
      have ndt : dxt ≠ ta := fun e => by rw [e, upd_same] at hdx; cases hdx
      have nd : H1 dxt = none := by rwa [upd_ne ndt] at hdx
      have eo1 := s1 _ _ eo
      have lab0 : ∀ b, H1 b = none → G.L b = none := ss1.tree.lok
      refine ⟨rfl, x, dxt, ta, G.s, row, (fun b => if G.L b = some .out then some .out else if b = G.s then some .sess else none), rfl, upd_same, ?_, ?_, fun b hb => ?_, fun H2 G2 et es tr old => ⟨rfl, ?_⟩⟩
      · rw [upd_ne nxt.symm, upd_ne ndt.symm, upd_same]
      · show (if G.L ta = some .out then _ else if ta = G.s then _ else _) = _
        rw [if_neg (by rw [lab0 ta hta]; simp), if_neg (ne_of_none eo1 hta).symm]
      · have hb1 : H1 b = none := by
          cases e : H1 b with
          | none => rfl
          | some u =>
            rw [upd_ne (ne_of_none e nx), upd_ne (ne_of_none e nd), upd_ne (ne_of_none e hta), e] at hb
            cases hb
        show (if G.L b = some .out then _ else if b = G.s then _ else _) = _
        rw [if_neg (by rw [lab0 b hb1]; simp), if_neg (ne_of_none eo1 hb1).symm]
      have old2 : ∀ b u, H1 b = some u → H2 b = some u ∧ G2.L b = if G.L b = some .out then some .out else if b = G.s then some .sess else none := fun b u e =>
        old b u (by rw [upd_ne (ne_of_none e nx), upd_ne (ne_of_none e nd), upd_ne (ne_of_none e hta)]; exact e) (ne_of_none e nx)
      obtain ⟨eo2, lo2⟩ := old2 _ _ eo1
      rw [if_neg (by rw [lo]; simp), if_pos rfl] at lo2
      have nla : G.L a = none ∨ True := .inr trivial
      repeat walk_at "ub1"
      refine i_st eo2 T.cSe T.nTree (by show 5 < 1000; decide) ?_
      repeat walk_at "ub1"
      refine i_st upd_same T.cSe T.nClock (by show 5 < 1000; decide) ?_
      repeat walk_at "ub1"
      refine i_st upd_same T.cSe T.nOpen (by show 5 < 1000; decide) ?_
      simp only [upd_upd]
      have ep : putF "is_open" (V.bl false) (putF "clock" (V.int 0) (putF "tree" (V.ref x) (seF G.t M.clock M.group.isSome g0 d0))) = seF G2.t 0 false g0 d0 := by
        rw [et]
        rfl
      rw [ep]
      have lo3 : G2.L G2.s = some .sess := by rw [es]; exact lo2
      have ss3 : SessAt C G2 (upd H2 G.s (.ins C.se dx (seF G2.t 0 false g0 d0))) ⟨Tr.fresh row, 0, none⟩ := by
        refine ⟨⟨dx, g0, d0, ?_, lo3, fun cs t e => by cases e⟩, tr.poke lo2 rfl _⟩
        rw [es]
        exact upd_same
      have f3 : FrO G H G2 (upd H2 G.s (.ins C.se dx (seF G2.t 0 false g0 d0))) := fun b o e l => by
        have nbs : b ≠ G.s := fun z => by rw [z, lo] at l; simp at l
        obtain ⟨q1, q2⟩ := old2 b o (s1 _ _ e)
        refine ⟨by rw [upd_ne nbs]; exact q1, ?_⟩
        rw [q2]
        rcases l with l | l
        · rw [if_neg (by rw [l]; simp), if_neg nbs, l]
        · rw [if_pos l, l]
      have ha3 : upd H2 G.s (.ins C.se dx (seF G2.t 0 false g0 d0)) a = some (.lst (vInts row)) := by
        rw [upd_ne (ne_of (s1 _ _ ha) eo1 (by intro q; cases q))]
        exact (old2 _ _ (s1 _ _ ha)).1
      generalize upd H2 G.s (.ins C.se dx (seF G2.t 0 false g0 d0)) = H3 at *
      repeat walk_at "ub1"
      refine ⟨a, _, rfl, .inl (SqL.of ha3), ?_⟩
      repeat walk_at "ub1"
      refine ⟨one_line, fun p hp => k.new es ss3 f3 hp ?_⟩
      rw [vInts_len]
      rfl
def sp_Session_begin_group (_K : PySem.W.Frag) (C : Cl) : Sp := spOp0 oOpen C
abbrev s_Session_begin_group : Stmt := inClass (topS 47) 5
theorem sc_Session_begin_group : FnScope ["self"] ["self"] (defScope s_Session_begin_group) := ⟨rfl, rfl, rfl, by decide +kernel, rfl, by decide +kernel, by decide +kernel⟩
theorem b_Session_begin_group : Bind "begin_group" "Session.begin_group" s_Session_begin_group ["self"] := fun _ _ _ _ _ _ us hl => match us, hl with | [_], _ => rfl
theorem ok_Session_begin_group (T : Txt K mg C) (D : DefM K C.se "begin_group" "Session.begin_group" s_Session_begin_group) (c_Tree_here : CalM P w K mg base 1 C.tr "here" ["self"] (sp_Tree_here K C)) : CalM P w K mg base 2 C.se "begin_group" ["self"] (sp_Session_begin_group K C) := by
  refine D.cal b_Session_begin_group fun f fd F => F.ok sc_Session_begin_group (fun vs H Q E h => h.1) (fun cdv A outer s H vs Q E hr h => ?_)
  have hu := hu_of hr
  refine ⟨_, (pss_cons (ps_if (pt_val (pe_fld (pv 0) rfl)) (pss_one (ps_ret (pe_lst (pa_cons (pk T.kGROUP rfl) pa_nil)))) pss_nil)
        (pss_cons (ps_fld (pv 0) (pe_fld (pm0 c_Tree_here T.cTr hr (by decide) (pe_fld (pv 0) rfl)) rfl) rfl)
        (pss_cons (ps_fld (pv 0) (pe_lst pa_nil) rfl)
        (pss_cons (ps_fld (pv 0) pe_bl rfl)
        (pss_one (ps_ret (pe_lst (pa_cons (pe_fld (pe_fld (pv 0) rfl) rfl) pa_nil)))))))), ?_⟩
  obtain ⟨_, G, M, rfl, ss, ft, k⟩ := h
  have W := ft.good.wf
  obtain ⟨c, hcur⟩ := W.cur
  obtain ⟨dx, g0, d0, eo, lo, _⟩ := ss.obj
  unfold oOpen at k
  repeat walk_at "ub1"
  refine rdM_open T ss ?_
  repeat walk_at "ub1"
  cases hg : M.group with
  | some g =>
    rw [hg] at k
    refine iteT ?_
    repeat walk_at "ub1"
    exact ⟨one_line, fun p hp => k.new rfl ss FrO.refl hp rfl⟩
  | none =>
    rw [hg] at k
    refine iteF ?_
    repeat walk_at "ub1"
    refine rdM_tree T ss ?_
    refine mtT ss.tree ?_
    repeat walk_at "ub1"
    refine ⟨rfl, G, M.tree, c, rfl, ss.tree, hcur, ?_⟩
    refine rdS_text T ss.tree hcur fun ta ht => ?_
    repeat walk_at "ub1"
    refine i_st eo T.cSe T.nDraft (by show 5 < 1000; decide) ?_
    have t1 := ss.tree.poke lo rfl (.ins C.se dx (putF "draft" (V.ref ta) (seF G.t M.clock M.group.isSome g0 d0)))
    repeat walk_at "ub1"
    refine ⟨Nat.zero_le _, fun ga hga => ?_⟩
    have nga : H ga = none := upd_none hga
    have nsg : G.s ≠ ga := ne_of_none eo nga
    have ngt : ta ≠ ga := ne_of_none ht.1 nga
    repeat walk_at "ub1"
    refine i_st (Eq.trans (upd_ne nsg) upd_same) T.cSe T.nGrouped (by show 5 < 1000; decide) ?_
    repeat walk_at "ub1"
    refine i_st upd_same T.cSe T.nOpen (by show 5 < 1000; decide) ?_
    simp only [upd_upd]
    have ep : putF "is_open" (V.bl true) (putF "grouped" (V.ref ga) (putF "draft" (V.ref ta) (seF G.t M.clock M.group.isSome g0 d0))) = seF G.t M.clock true (.ref ga) (.ref ta) := rfl
    rw [ep]
    have t2 := t1.lab hga (.lst []) .grp
    have lo2 : (G.lab ga .grp).L G.s = some .sess := by
      show (if G.s = ga then _ else _) = _
      rw [if_neg nsg]
      exact lo
    have t3 := t2.poke lo2 rfl (.ins C.se dx (seF G.t M.clock true (.ref ga) (.ref ta)))
    have lab0 : G.L ga = none := ss.tree.lok ga nga
    have nst : ta ≠ G.s := ne_of ht.1 eo (by intro q; cases q)
    have ss3 : SessAt C (G.lab ga .grp) (upd (upd (upd H G.s (.ins C.se dx (putF "draft" (V.ref ta) (seF G.t M.clock M.group.isSome g0 d0)))) ga (.lst [])) G.s (.ins C.se dx (seF G.t M.clock true (.ref ga) (.ref ta)))) { M with group := some ([], textOf M.tree M.tree.current) } := by
      refine ⟨⟨dx, .ref ga, .ref ta, upd_same, lo2, fun cs t e => ?_⟩, t3⟩
      cases e
      refine ⟨ga, ta, [], rfl, rfl, ?_, if_pos rfl, .nil, ?_, ?_⟩
      · rw [upd_ne nsg.symm, upd_same]
        rfl
      · rw [upd_ne nst, upd_ne ngt, upd_ne nst, textOf_of hcur]
        exact ht.1
      · show (if ta = ga then _ else _) = _
        rw [if_neg ngt]
        exact ht.2
    have f3 : FrO G H (G.lab ga .grp) (upd (upd (upd H G.s (.ins C.se dx (putF "draft" (V.ref ta) (seF G.t M.clock M.group.isSome g0 d0)))) ga (.lst [])) G.s (.ins C.se dx (seF G.t M.clock true (.ref ga) (.ref ta)))) := fun b o e l => by
      have nbs : b ≠ G.s := fun z => by rw [z, lo] at l; simp at l
      have nbg : b ≠ ga := ne_of_none e nga
      refine ⟨by rw [upd_ne nbs, upd_ne nbg, upd_ne nbs]; exact e, ?_⟩
      show (if b = ga then _ else _) = _
      rw [if_neg nbg]
    generalize upd (upd (upd H G.s (.ins C.se dx (putF "draft" (V.ref ta) (seF G.t M.clock M.group.isSome g0 d0)))) ga (.lst [])) G.s (.ins C.se dx (seF G.t M.clock true (.ref ga) (.ref ta))) = H3 at *
    have es : (G.lab ga .grp).s = G.s := rfl
    generalize G.lab ga .grp = G3 at *
    rw [← es]
    repeat walk_at "ub1"
    refine rdM_tree T ss3 ?_
    refine rdT_coming T ss3.tree ?_
    repeat walk_at "ub1"
    exact ⟨one_line, fun p hp => k.new es ss3 f3 hp rfl⟩
end
/-! ### operations: changes -/
section
variable {P : Program} {w : World} {K : PySem.W.Frag} {mg : Str → Option Value} {base : Heap} {C : Cl}
def sp_Session_change (_K : PySem.W.Frag) (C : Cl) : Sp := fun vs H Q _ => vs.length = 4 ∧ ∃ (G : Gh) (M : Se) (a : Addr) (p o : Nat) (row : List Nat), vs = [.ref G.s, iV p, iV o, .ref a] ∧ SessAt C G H M ∧ Fit M ∧ H a = some (.lst (vInts row)) ∧ row.length ≤ 350 ∧ Ret C G H Q (oChange M p o row)
theorem now_len {M : Se} (ft : Fit M) : M.textNow.length ≤ 300 := by
  unfold Se.textNow
  cases hg : M.group with
  | some g => exact (ft.good.group g.1 g.2 hg).2.1
  | none =>
    obtain ⟨c, hcur⟩ := ft.good.wf.cur
    show (textOf M.tree M.tree.current).length ≤ 300
    rw [textOf_of hcur]
    exact ft.good.wf.len c (mem_of_find hcur).1
abbrev s_Session_change : Stmt := inClass (topS 47) 4
theorem sc_Session_change : FnScope ["self", "position", "removed", "row", "text", "made", "later"] ["self", "position", "removed", "row"] (defScope s_Session_change) := ⟨rfl, rfl, rfl, by decide +kernel, rfl, by decide +kernel, by decide +kernel⟩
theorem b_Session_change : Bind "change" "Session.change" s_Session_change ["self", "position", "removed", "row"] := fun _ _ _ _ _ _ us hl => match us, hl with | [_, _, _, _], _ => rfl
theorem ok_Session_change (T : Txt K mg C) (D : DefM K C.se "change" "Session.change" s_Session_change) (c_Tree_create : CalM P w K mg base 3 C.tr "create" ["self", "changes", "text", "time"] (sp_Tree_create K C)) (c_changed : CalF P w K mg base 2 "changed" ["text", "change"] (sp_changed K C)) (c_Change_init : CalI P w K mg base 1 C.ch ["self", "position", "removed", "inserted"] (sp_Change_init K C)) (c_are_bytes : CalF P w K mg base 1 "are_bytes" ["row"] (sp_are_bytes K C)) (c_Session_text_now : CalM P w K mg base 2 C.se "text_now" ["self"] (sp_Session_text_now K C)) : CalM P w K mg base 4 C.se "change" ["self", "position", "removed", "row"] (sp_Session_change K C) := by
  refine D.cal b_Session_change fun f fd F => F.ok sc_Session_change (fun vs H Q E h => h.1) (fun cdv A outer s H vs Q E hr h => ?_)
  have hu := hu_of hr
  refine ⟨_, (pss_cons (ps_set (i := 4) sc_Session_change.nd rfl (Or.inl rfl) (pm0 c_Session_text_now T.cSe hr (by decide) (pv 0)))
        (pss_cons (ps_if (PW.pt (pw_or (pt_cmpR op_gt (pe_op op_add (pv 1) (pv 2)) (pe_callB call_len_seq (by rfl) T.len PySem.boot_len (pa_cons (pv 4) pa_nil)) (nomark _)) (pw_or1 (pt_not (pt_val (pf c_are_bytes hr (by decide) (by rfl) (pa_cons (pv 3) pa_nil))))))) (pss_one (ps_ret (pe_lst (pa_cons (pk T.kOUT_OF_RANGE rfl) pa_nil)))) pss_nil)
        (pss_cons (ps_set (i := 5) sc_Session_change.nd rfl (Or.inl rfl) (pi_ c_Change_init hr (by decide) (by rfl) T.gCh (pa_cons (pv 1) (pa_cons (pv 2) (pa_cons (pe_callTy call_list_of (by rfl) T.list (by decide +kernel) (pa_cons (pv 3) pa_nil)) pa_nil)))))
        (pss_cons (ps_set (i := 6) sc_Session_change.nd rfl (Or.inl rfl) (pf c_changed hr (by decide) (by rfl) (pa_cons (pv 4) (pa_cons (pv 5) pa_nil))))
        (pss_cons (ps_if (pt_cmpR op_gt (pe_callB call_len_seq (by rfl) T.len PySem.boot_len (pa_cons (pv 6) pa_nil)) (pk T.kMOST_BYTES rfl) (nomark _)) (pss_one (ps_ret (pe_lst (pa_cons (pk T.kTOO_LONG rfl) pa_nil)))) pss_nil)
        (pss_cons (ps_if (pt_not (pt_val (pe_fld (pv 0) rfl))) (pss_one (ps_ret (pe_lst (pa_cons (pm c_Tree_create T.cTr hr (by decide) (pe_fld (pv 0) rfl) (pa_cons (pe_lst (pa_cons (pv 5) pa_nil)) (pa_cons (pv 6) (pa_cons (pe_fld (pv 0) rfl) pa_nil)))) (pa_cons (pe_callB call_len_seq (by rfl) T.len PySem.boot_len (pa_cons (pv 6) pa_nil)) pa_nil))))) pss_nil)
        (pss_cons (ps_expr (pe_bm PySem.F.plainAttrs_list PySem.F.slot_list_append PySem.F.type_list_append mt_append (pe_fld (pv 0) rfl) (pa_cons (pv 5) pa_nil)))
        (pss_cons (ps_fld (pv 0) (pv 6) rfl)
        (pss_one (ps_ret (pe_lst (pa_cons (pe_fld (pe_fld (pv 0) rfl) rfl) (pa_cons (pe_callB call_len_seq (by rfl) T.len PySem.boot_len (pa_cons (pv 6) pa_nil)) pa_nil))))))))))))), ?_⟩
  obtain ⟨_, G, M, a, p, o, row, rfl, ss, ft, ha, hl, k⟩ := h
  have W := ft.good.wf
  have hnl := now_len ft
  have e0 : oChange M p o row = if M.textNow.length < p + o ∨ areBytes row = false then (M, [-1]) else if 300 < (Ue03.changed M.textNow ⟨p, o, row⟩).length then (M, [-6]) else match M.group with
    | none => ({ M with tree := create M.tree [⟨p, o, row⟩] (Ue03.changed M.textNow ⟨p, o, row⟩) M.clock }, asInts [M.tree.coming, (Ue03.changed M.textNow ⟨p, o, row⟩).length])
    | some g => ({ M with group := some (g.1 ++ [⟨p, o, row⟩], Ue03.changed M.textNow ⟨p, o, row⟩) }, asInts [M.tree.coming, (Ue03.changed M.textNow ⟨p, o, row⟩).length]) := by
    unfold oChange
    cases M.group <;> rfl
  rw [e0] at k
  repeat walk_at "ub1"
  refine mtM ss ?_
  repeat walk_at "ub1"
  refine ⟨rfl, G, M, rfl, ss, W, fun ta ht => ?_⟩
  repeat walk_at "ub1"
  refine ⟨ta, _, rfl, .inl (SqL.of ht.1), ?_⟩
  repeat walk_at "ub1"
  rw [vInts_len]
  have bad : ∀ (H1 : Hp), Same H H1 → (M.textNow.length < p + o ∨ areBytes row = false) → ∀ q, H1 q = none → Q (.ref q) (upd H1 q (.lst [V.int (-1)])) := fun H1 s1 c q hq => by
    rw [if_pos c] at k
    exact k.new rfl (ss.same s1) (Same.fro s1) hq rfl
  refine ite_dec (fun c => ?_) (fun c => ?_)
  · repeat walk_at "ub1"
    exact ⟨one_line, fun q hq => bad H (.refl H) (.inl (by omega)) q hq⟩
  · repeat walk_at "ub1"
    refine ⟨rfl, a, row, rfl, ha, by omega, fun H1 s1 => ?_⟩
    repeat walk_at "ub1"
    refine ite_nb (fun c2 => ?_) (fun c2 => ?_)
    · repeat walk_at "ub1"
      exact ⟨one_line, fun q hq => bad H1 s1 (.inr c2) q hq⟩
    · rw [if_neg (not_or.mpr ⟨by omega, by rw [c2]; simp⟩)] at k
      repeat walk_at "ub1"
      refine ⟨a, _, rfl, .inl (SqL.of (s1 _ _ ha)), fun ia hia => ?_⟩
      repeat walk_at "ub1"
      intro z dz hz hdz ndz
      refine ⟨rfl, z, dz, ia, p, o, rfl, upd_same, fun H2 h6 h7 => ⟨rfl, ?_⟩⟩
      have s2 : Same (upd H1 ia (.lst (vInts row))) H2 := fun b u e => h7 b u (by rw [upd_ne (ne_of_none e hz), upd_ne (ne_of_none e hdz)]; exact e) (ne_of_none e hz)
      have s12 : Same H H2 := s1.trans ((Same.new hia).trans s2)
      have ss2 := ss.same s12
      have lz : G.L z = none := ss.tree.lok z ((s1.trans (Same.new hia)).free hz)
      have li : G.L ia = none := ss.tree.lok ia (s1.free hia)
      have hia2 : H2 ia = some (.lst (vInts row)) := s2 _ _ upd_same
      have hch : ChAt C G H2 z ⟨p, o, row⟩ := ⟨dz, ia, h6, lz, hia2, li⟩
      have ht2 : TextAt G H2 ta M.textNow := ⟨s12 _ _ ht.1, ht.2⟩
      repeat walk_at "ub1"
      refine ⟨rfl, G, ta, z, M.textNow, ⟨p, o, row⟩, rfl, ht2.1, hch, by show M.textNow.length + row.length ≤ _; omega, fun H3 p3 s3 n3 e3 => ?_⟩
      have ss3 := ss2.same s3
      have s13 := s12.trans s3
      have hll : (Ue03.changed M.textNow ⟨p, o, row⟩).length ≤ 650 := by
        have := put_len M.textNow p o row
        show (Ue03.put M.textNow p o row).length ≤ _
        omega
      generalize hlt : Ue03.changed M.textNow ⟨p, o, row⟩ = lt at *
      repeat walk_at "ub1"
      refine ⟨p3, _, rfl, .inl (SqL.of e3), ?_⟩
      repeat walk_at "ub1"
      rw [vInts_len]
      refine ite_dec (fun c3 => ?_) (fun c3 => ?_)
      · rw [if_pos (by omega)] at k
        repeat walk_at "ub1"
        exact ⟨one_line, fun q hq => k.new rfl ss3 (Same.fro s13) hq rfl⟩
      · rw [if_neg (by omega)] at k
        repeat walk_at "ub1"
        refine rdM_open T ss3 ?_
        repeat walk_at "ub1"
        have ht3 : TextAt G H3 p3 lt := ⟨e3, ss2.tree.lok p3 n3⟩
        have hch3 := hch.frm (Frm.of s3)
        cases hg : M.group with
        | none =>
          rw [hg] at k
          refine (show (if (!false) = true then _ else _) from ?_)
          refine ite_nb (fun _ => ?_) (fun q => by cases q)
          repeat walk_at "ub1"
          refine rdM_tree T ss3 ?_
          refine mtT ss3.tree ?_
          repeat walk_at "ub1"
          refine ⟨one_line, fun p4 n4 => ?_⟩
          have s4 := Same.new (o := .lst [.ref z]) n4
          have ss4 := ss3.same s4
          repeat walk_at "ub1"
          refine rdM_clock T ss4 ?_
          repeat walk_at "ub1"
          refine ⟨rfl, G, M.tree, p4, p3, [z], [⟨p, o, row⟩], lt, M.clock, rfl, ss4.tree, W, ft.sm, upd_same, ss3.tree.lok p4 n4, .cons (hch3.frm (Frm.of s4)) .nil, ht3.frm (Frm.of s4), fun H5 G5 et es tr5 f5 => ?_⟩
          have e5 : H5 p3 = some (.lst (vInts lt)) := (f5 _ _ (s4 _ _ e3) (by rw [ht3.2]; rfl)).1
          have ss5 : SessAt C G5 H5 { M with tree := create M.tree [⟨p, o, row⟩] lt M.clock, group := none } := by
            obtain ⟨dx, g, d, h1, h2, h3⟩ := ss4.obj
            rw [hg] at h1
            obtain ⟨q1, q2⟩ := f5 _ _ h1 (by rw [h2]; rfl)
            refine ⟨⟨dx, g, d, ?_, ?_, fun cs t e => by cases e⟩, tr5⟩
            · rw [es, et]
              exact q1
            · rw [es]
              exact q2.trans h2
          repeat walk_at "ub1"
          refine ⟨p3, _, rfl, .inl (SqL.of e5), ?_⟩
          repeat walk_at "ub1"
          refine ⟨two_line, fun p6 n6 => k.new es ss5 ((Same.fro (s13.trans s4)).trans f5.fro) n6 ?_⟩
          rw [vInts_len]
          rfl
        | some g =>
          rw [hg] at k
          refine (show (if (!true) = true then _ else _) from ?_)
          refine ite_nb (fun q => by cases q) (fun _ => ?_)
          repeat walk_at "ub1"
          obtain ⟨dx, g0, d0, eo, lo, kk⟩ := ss3.obj
          obtain ⟨ga, da, as, rfl, rfl, h1, h2, h3, h4⟩ := kk g.1 g.2 hg
          have hgl := ft.grp g.1 g.2 hg
          have hal := paired_len h3
          refine i_rd eo T.cSe T.nGrouped rfl ?_
          refine ⟨.inl ⟨rfl, _, SqL.of h1⟩, ?_⟩
          repeat walk_at "ub1"
          refine ⟨ga, _, .ref z, rfl, rfl, h1, bigl (by rw [List.length_map]; omega), ?_⟩
          have tr4 := ss3.tree.poke h2 rfl (.lst (as.map V.ref ++ [.ref z]))
          have nsg : G.s ≠ ga := ne_lab (by rw [lo, h2]; simp)
          have eo4 : upd H3 ga (.lst (as.map V.ref ++ [.ref z])) G.s = _ := (upd_ne nsg).trans eo
          have f4 : FrO G H3 G (upd H3 ga (.lst (as.map V.ref ++ [.ref z]))) := fun b u e l => by
            have nb : b ≠ ga := fun y => by rw [y, h2] at l; simp at l
            exact ⟨by rw [upd_ne nb]; exact e, rfl⟩
          have h34 := (show ChsAt C G H3 (as ++ [z]) (g.1 ++ [⟨p, o, row⟩]) from paired_app h3 (.cons hch3 .nil)).frm f4.frm
          have ht4 := ht3.frm f4.frm
          have e4 : upd H3 ga (.lst (as.map V.ref ++ [.ref z])) ga = some (.lst ((as ++ [z]).map V.ref)) := by
            rw [upd_same, List.map_append]
            rfl
          generalize upd H3 ga (.lst (as.map V.ref ++ [.ref z])) = H4 at *
          repeat walk_at "ub1"
          refine i_st eo4 T.cSe T.nDraft (by show 5 < 1000; decide) ?_
          have ep : putF "draft" (V.ref p3) (seF G.t M.clock M.group.isSome (.ref ga) (.ref da)) = seF G.t M.clock true (.ref ga) (.ref p3) := by
            rw [hg]
            rfl
          rw [ep]
          have ho : ∀ b u, H4 b = some u → G.L b ≠ some .sess → upd H4 G.s (.ins C.se dx (seF G.t M.clock true (.ref ga) (.ref p3))) b = some u := fun b u e l => by
            rw [upd_ne (ne_lab (by rw [lo]; exact l))]
            exact e
          have f5 : FrO G H4 G (upd H4 G.s (.ins C.se dx (seF G.t M.clock true (.ref ga) (.ref p3)))) := fun b u e l => ⟨ho b u e (by rcases l with l | l <;> (rw [l]; simp)), rfl⟩
          have ss5 : SessAt C G (upd H4 G.s (.ins C.se dx (seF G.t M.clock true (.ref ga) (.ref p3)))) { M with group := some (g.1 ++ [⟨p, o, row⟩], lt) } := by
            refine ⟨⟨dx, .ref ga, .ref p3, upd_same, lo, fun cs t e => ?_⟩, tr4.poke lo rfl _⟩
            cases e
            exact ⟨ga, p3, as ++ [z], rfl, rfl, ho _ _ e4 (by rw [h2]; simp), h2, h34.frm f5.frm, ht4.frm f5.frm⟩
          have e5 := (ht4.frm f5.frm).1
          generalize upd H4 G.s (.ins C.se dx (seF G.t M.clock true (.ref ga) (.ref p3))) = H5 at *
          repeat walk_at "ub1"
          refine rdM_tree T ss5 ?_
          refine rdT_coming T ss5.tree ?_
          repeat walk_at "ub1"
          refine ⟨p3, _, rfl, .inl (SqL.of e5), ?_⟩
          repeat walk_at "ub1"
          refine ⟨two_line, fun p6 n6 => k.new rfl ss5 ((Same.fro s13).trans (f4.trans f5)) n6 ?_⟩
          rw [vInts_len]
          rfl
theorem lab_self (G : Gh) {p : Addr} {lb : Lbl} (h : G.L p = some lb) : G.lab p lb = G := by
  obtain ⟨L, a, t, d, s⟩ := G
  have e : (fun b => if b = p then some lb else L b) = L := by
    funext b
    by_cases e : b = p
    · rw [if_pos e, e]
      exact h.symm
    · rw [if_neg e]
  show Gh.mk (fun b => if b = p then some lb else L b) a t d s = _
  rw [e]
def sp_Session_end_group (_K : PySem.W.Frag) (C : Cl) : Sp := spOp0 oClose C
abbrev s_Session_end_group : Stmt := inClass (topS 47) 6
theorem sc_Session_end_group : FnScope ["self"] ["self"] (defScope s_Session_end_group) := ⟨rfl, rfl, rfl, by decide +kernel, rfl, by decide +kernel, by decide +kernel⟩
theorem b_Session_end_group : Bind "end_group" "Session.end_group" s_Session_end_group ["self"] := fun _ _ _ _ _ _ us hl => match us, hl with | [_], _ => rfl
theorem ok_Session_end_group (T : Txt K mg C) (D : DefM K C.se "end_group" "Session.end_group" s_Session_end_group) (c_Tree_create : CalM P w K mg base 3 C.tr "create" ["self", "changes", "text", "time"] (sp_Tree_create K C)) : CalM P w K mg base 4 C.se "end_group" ["self"] (sp_Session_end_group K C) := by
  refine D.cal b_Session_end_group fun f fd F => F.ok sc_Session_end_group (fun vs H Q E h => h.1) (fun cdv A outer s H vs Q E hr h => ?_)
  have hu := hu_of hr
  refine ⟨_, (pss_cons (ps_if (pt_not (pt_val (pe_fld (pv 0) rfl))) (pss_one (ps_ret (pe_lst (pa_cons (pk T.kGROUP rfl) pa_nil)))) pss_nil)
        (pss_cons (ps_fld (pv 0) pe_bl rfl)
        (pss_cons (ps_if (pt_cmpR (op_eqE hr.units) (pe_fld (pv 0) rfl) (pe_lst pa_nil) (nomark _)) (pss_one (ps_ret (pe_lst (pa_cons (pe_fld (pe_fld (pv 0) rfl) rfl) pa_nil)))) pss_nil)
        (pss_one (ps_ret (pe_lst (pa_cons (pm c_Tree_create T.cTr hr (by decide) (pe_fld (pv 0) rfl) (pa_cons (pe_fld (pv 0) rfl) (pa_cons (pe_fld (pv 0) rfl) (pa_cons (pe_fld (pv 0) rfl) pa_nil)))) pa_nil))))))), ?_⟩
  obtain ⟨_, G, M, rfl, ss, ft, k⟩ := h
  have W := ft.good.wf
  obtain ⟨dx, g0, d0, eo, lo, kk⟩ := ss.obj
  have e0 : oClose M = match M.group with
    | none => (M, [-9])
    | some g => if g.1.isEmpty = true then ({ M with group := none }, asInts [M.tree.current]) else ({ M with tree := create M.tree g.1 g.2 M.clock, group := none }, asInts [M.tree.coming]) := by
    unfold oClose
    cases M.group <;> rfl
  rw [e0] at k
  repeat walk_at "ub1"
  refine rdM_open T ss ?_
  repeat walk_at "ub1"
  cases hg : M.group with
  | none =>
    rw [hg] at k
    refine (show (if (!false) = true then _ else _) from ?_)
    refine ite_nb (fun _ => ?_) (fun q => by cases q)
    repeat walk_at "ub1"
    exact ⟨one_line, fun p hp => k.new rfl ss FrO.refl hp rfl⟩
  | some g =>
    rw [hg] at k
    refine (show (if (!true) = true then _ else _) from ?_)
    refine ite_nb (fun q => by cases q) (fun _ => ?_)
    obtain ⟨ga, da, as, rfl, rfl, h1, h2, h3, h4⟩ := kk g.1 g.2 hg
    repeat walk_at "ub1"
    refine i_st eo T.cSe T.nOpen (by show 5 < 1000; decide) ?_
    have ep : putF "is_open" (V.bl false) (seF G.t M.clock M.group.isSome (.ref ga) (.ref da)) = seF G.t M.clock false (.ref ga) (.ref da) := rfl
    rw [ep]
    obtain ⟨s1, f1⟩ := ss.put (M' := { M with group := none }) (dx := dx) (fs := seF G.t M.clock false (.ref ga) (.ref da)) rfl ⟨.ref ga, .ref da, rfl, fun cs t e => by cases e⟩
    have eo1 : upd H G.s (.ins C.se dx (seF G.t M.clock false (.ref ga) (.ref da))) G.s = some (.ins C.se dx (seF G.t M.clock false (.ref ga) (.ref da))) := upd_same
    have nsg : ga ≠ G.s := ne_lab (by rw [lo, h2]; simp)
    have h11 : upd H G.s (.ins C.se dx (seF G.t M.clock false (.ref ga) (.ref da))) ga = some (.lst (as.map V.ref)) := (upd_ne nsg).trans h1
    have h31 := h3.frm f1.frm
    have h41 := h4.frm f1.frm
    generalize upd H G.s (.ins C.se dx (seF G.t M.clock false (.ref ga) (.ref da))) = H1 at *
    repeat walk_at "ub1"
    refine i_rd eo1 T.cSe T.nGrouped rfl ?_
    repeat walk_at "ub1"
    refine ⟨Nat.zero_le _, fun pe he => ?_⟩
    have s2 := Same.new (o := .lst []) he
    have ss2 := s1.same s2
    refine ⟨ga, pe, _, rfl, rfl, SqL.of (s2 _ _ h11), SqL.of upd_same, ?_⟩
    have eo2 := s2 _ _ eo1
    have h12 := s2 _ _ h11
    have h32 := h31.frm (Frm.of s2)
    have h42 := h41.frm (Frm.of s2)
    generalize upd H1 pe (.lst []) = H2 at *
    have el : (as.map V.ref).isEmpty = g.1.isEmpty := by
      have := paired_len h3
      cases as with
      | nil => cases e : g.1 with
        | nil => rfl
        | cons c l => rw [e] at this; simp at this
      | cons a as => cases e : g.1 with
        | nil => rw [e] at this; simp at this
        | cons c l => rfl
    rw [el]
    repeat walk_at "ub1"
    have k' : Ret C G H Q (if g.1.isEmpty = true then ({ M with group := none }, asInts [M.tree.current]) else ({ M with tree := create M.tree g.1 g.2 M.clock, group := none }, asInts [M.tree.coming])) := k
    refine ite_b (fun c => ?_) (fun c => ?_)
    · rw [if_pos c] at k'
      repeat walk_at "ub1"
      refine rdM_tree T ss2 ?_
      refine rdT_current T ss2.tree ?_
      repeat walk_at "ub1"
      exact ⟨one_line, fun p hp => k'.new rfl ss2 (f1.trans (Same.fro s2)) hp rfl⟩
    · rw [if_neg (by rw [c]; exact Bool.false_ne_true)] at k'
      repeat walk_at "ub1"
      refine rdM_tree T ss2 ?_
      refine mtT ss2.tree ?_
      repeat walk_at "ub1"
      refine i_rd eo2 T.cSe T.nGrouped rfl ?_
      repeat walk_at "ub1"
      refine i_rd eo2 T.cSe T.nDraft rfl ?_
      repeat walk_at "ub1"
      refine rdM_clock T ss2 ?_
      repeat walk_at "ub1"
      have tr2 : TreeAt C (G.lab ga .grp) H2 M.tree := by
        rw [lab_self G h2]
        exact ss2.tree
      have tr3 := tr2.unlab
      have f3 : Frm G H2 { G with L := fun b => if b = ga then none else G.L b } H2 := fun b u e l => ⟨e, by
        show (if b = ga then none else G.L b) = none
        by_cases y : b = ga
        · rw [if_pos y]
        · rw [if_neg y]; exact l⟩
      refine ⟨rfl, { G with L := fun b => if b = ga then none else G.L b }, M.tree, ga, da, as, g.1, g.2, M.clock, rfl, tr3, W, ft.sm, h12, if_pos rfl, h32.frm f3, h42.frm f3, fun H5 G5 et es tr5 f5 => ?_⟩
      have fo : FrO G H2 G5 H5 := fun b u e l => by
        have nb : b ≠ ga := fun y => by rw [y, h2] at l; simp at l
        have lb : (if b = ga then none else G.L b) = G.L b := if_neg nb
        obtain ⟨q1, q2⟩ := f5 b u e (by show isT (if b = ga then none else G.L b) = false; rw [lb]; rcases l with l | l <;> (rw [l]; rfl))
        exact ⟨q1, q2.trans lb⟩
      have ss5 : SessAt C G5 H5 { M with tree := create M.tree g.1 g.2 M.clock, group := none } := by
        have lb : (if G.s = ga then none else G.L G.s) = G.L G.s := if_neg nsg.symm
        obtain ⟨q1, q2⟩ := f5 _ _ eo2 (by show isT (if G.s = ga then none else G.L G.s) = false; rw [lb, lo]; rfl)
        refine ⟨⟨dx, .ref ga, .ref da, ?_, ?_, fun cs t e => by cases e⟩, tr5⟩
        · rw [es, et]
          exact q1
        · rw [es]
          exact q2.trans (lb.trans lo)
      repeat walk_at "ub1"
      refine ⟨one_line, fun p6 n6 => k'.new es ss5 ((f1.trans (Same.fro s2)).trans fo) n6 rfl⟩
def sp_Session_keep (_K : PySem.W.Frag) (C : Cl) : Sp := fun vs H Q _ => vs.length = 3 ∧ ∃ (G : Gh) (M : Se) (n j : Nat), vs = [.ref G.s, iV n, iV j] ∧ SessAt C G H M ∧ Fit M ∧ Ret C G H Q (oKeep M n (decide (j = 1)))
abbrev s_Session_keep : Stmt := inClass (topS 47) 22
theorem sc_Session_keep : FnScope ["self", "number", "kept", "state"] ["self", "number", "kept"] (defScope s_Session_keep) := ⟨rfl, rfl, rfl, by decide +kernel, rfl, by decide +kernel, by decide +kernel⟩
theorem b_Session_keep : Bind "keep" "Session.keep" s_Session_keep ["self", "number", "kept"] := fun _ _ _ _ _ _ us hl => match us, hl with | [_, _, _], _ => rfl
theorem ok_Session_keep (T : Txt K mg C) (D : DefM K C.se "keep" "Session.keep" s_Session_keep) (c_Tree_state : CalM P w K mg base 1 C.tr "state" ["self", "number"] (sp_Tree_state K C)) (c_Tree_has : CalM P w K mg base 1 C.tr "has" ["self", "number"] (sp_Tree_has K C)) : CalM P w K mg base 2 C.se "keep" ["self", "number", "kept"] (sp_Session_keep K C) := by
  refine D.cal b_Session_keep fun f fd F => F.ok sc_Session_keep (fun vs H Q E h => h.1) (fun cdv A outer s H vs Q E hr h => ?_)
  have hu := hu_of hr
  refine ⟨_, (pss_cons (ps_if (pt_not (pt_val (pm c_Tree_has T.cTr hr (by decide) (pe_fld (pv 0) rfl) (pa_cons (pv 1) pa_nil)))) (pss_one (ps_ret (pe_lst (pa_cons (pk T.kNO_STATE rfl) pa_nil)))) pss_nil)
        (pss_cons (ps_set (i := 3) sc_Session_keep.nd rfl (Or.inl rfl) (pm c_Tree_state T.cTr hr (by decide) (pe_fld (pv 0) rfl) (pa_cons (pv 1) pa_nil)))
        (pss_cons (ps_fld (pv 3) (pe_cmpR op_eq (pv 2) pe_int (nomark _)) rfl)
        (pss_one (ps_ret (pe_lst (pa_cons pe_int pa_nil))))))), ?_⟩
  obtain ⟨_, G, M, n, j, rfl, ss, ft, k⟩ := h
  have W := ft.good.wf
  unfold oKeep at k
  repeat walk_at "ub1"
  refine rdM_tree T ss ?_
  refine mtT ss.tree ?_
  repeat walk_at "ub1"
  refine ⟨rfl, G, M.tree, n, rfl, ss.tree, ?_⟩
  repeat walk_at "ub1"
  refine ite_nb (fun e => ?_) (fun e => ?_)
  · rw [if_neg (by rw [e]; exact Bool.false_ne_true)] at k
    repeat walk_at "ub1"
    exact ⟨one_line, fun p hp => k.new rfl ss FrO.refl hp rfl⟩
  · rw [if_pos e] at k
    obtain ⟨x, hx⟩ := has_iff.mp e
    repeat walk_at "ub1"
    refine rdM_tree T ss ?_
    refine mtT ss.tree ?_
    repeat walk_at "ub1"
    refine ⟨rfl, G, M.tree, n, x, rfl, ss.tree, hx, ?_⟩
    repeat walk_at "ub1"
    have ed : decide ((j : Int) = 1) = decide (j = 1) := by
      rw [decide_eq_decide]
      omega
    rw [ed]
    refine stS T T.nKept ss.tree W.inc hx (nb_kept (decide (j = 1))) ⟨rfl, rfl, rfl⟩ (fun _ _ _ => rfl) fun H1 tr1 f1 => ?_
    repeat walk_at "ub1"
    exact ⟨one_line, fun p hp => k.new rfl (ss.turn f1 tr1) f1.fro hp rfl⟩
end
/-! ### operations: telling -/
section
variable {P : Program} {w : World} {K : PySem.W.Frag} {mg : Str → Option Value} {base : Heap} {C : Cl}
/-- numbers through a test, gathered by a comprehension -/
theorem filt_more {l : List Nat} {i n : Nat} (q : Nat → Bool) (h : l[i]? = some n) : (l.take (i + 1)).filter q = (l.take i).filter q ++ (if q n = true then [n] else []) := by
  rw [take_more h, List.filter_append]
  congr 1
  by_cases c : q n = true
  · rw [if_pos c, List.filter_cons_of_pos c]
    rfl
  · rw [if_neg c, List.filter_cons_of_neg c]
    rfl
theorem filt_len {M : Tr} (W : WF M) (sm : Sm M) (i : Nat) (q : Nat → Bool) : (vInts ((M.nums.take i).filter q)).length < sizeLine := by
  rw [vInts_len]
  have h1 := len_filter_take M.nums i q
  rw [nums_len] at h1
  have := small_nodes W sm
  exact bigl (by omega)
def sp_Session_earlier (_K : PySem.W.Frag) (C : Cl) : Sp := spOp1 oEarlier C
abbrev s_Session_earlier : Stmt := inClass (topS 47) 13
theorem sc_Session_earlier : FnScope ["self", "n", "some", "number"] ["self", "n"] (defScope s_Session_earlier) := ⟨rfl, rfl, rfl, by decide +kernel, rfl, by decide +kernel, by decide +kernel⟩
theorem b_Session_earlier : Bind "earlier" "Session.earlier" s_Session_earlier ["self", "n"] := fun _ _ _ _ _ _ us hl => match us, hl with | [_, _], _ => rfl
theorem ok_Session_earlier (T : Txt K mg C) (D : DefM K C.se "earlier" "Session.earlier" s_Session_earlier) (c_Session_moved_among : CalM P w K mg base 4 C.se "moved_among" ["self", "some", "n"] (sp_Session_moved_among K C)) (c_Tree_numbers : CalM P w K mg base 1 C.tr "numbers" ["self"] (sp_Tree_numbers K C)) : CalM P w K mg base 5 C.se "earlier" ["self", "n"] (sp_Session_earlier K C) := by
  refine D.cal b_Session_earlier fun f fd F => F.ok sc_Session_earlier (fun vs H Q E h => h.1) (fun cdv A outer s H vs Q E hr h => ?_)
  have hu := hu_of hr
  refine ⟨_, (pss_cons (ps_setLc (i := 2) (own := [("number", 3)]) (g := gName 3) rfl sc_Session_earlier.nd rfl rfl (sw_true rfl rfl rfl (by decide +kernel)) (pi_list (pm0 c_Tree_numbers T.cTr hr (by decide) (pe_fld (pv 0) rfl))) (blkOk_by (own := [("number", 3)]) (N := ["self", "n", "some", "number"]) (sc := defScope s_Session_earlier) (by decide +kernel)) (fun _ _ _ _ _ => pg_name (i := 3) sc_Session_earlier.nd rfl (Or.inl rfl)) (fun _ _ _ _ _ => by exact pts_one (pt_cmpR op_lt (pv 3) (pfk (K0 := K) rfl (pfk (K0 := K) rfl (pv 0) rfl) rfl) (nomark _))) (fun _ _ _ _ _ => by exact (pv 3)))
        (pss_one (ps_ret (pm c_Session_moved_among T.cSe hr (by decide) (pv 0) (pa_cons (pe_revL (pv 2)) (pa_cons (pv 1) pa_nil)))))), ?_⟩
  obtain ⟨_, G, M, n, rfl, ss, ft, k⟩ := h
  have W := ft.good.wf
  repeat walk_at "ub1"
  refine rdM_tree T ss ?_
  refine mtT ss.tree ?_
  repeat walk_at "ub1"
  refine ⟨rfl, G, M.tree, rfl, ss.tree, W, fun H1 p1 s1 n1 e1 => ?_⟩
  refine ⟨p1, rfl, ⟨_, SqL.of e1⟩, fun D hD => ?_⟩
  have s2 := Same.new (o := .lst []) hD
  refine lc_list (K := K) (a := p1) (xs := vInts M.tree.nums) (fun i H' => Same H1 H' ∧ H' D = some (.lst (vInts ((M.tree.nums.take i).filter fun j => decide (j < M.tree.current))))) ⟨s2, upd_same⟩ (fun i H' _ ⟨s, _⟩ => SqL.of (s _ _ e1)) ?_ ?_
  · rintro i z H' hi ⟨s, hd⟩
    obtain ⟨j, hj, rfl⟩ := vInts_at hi
    have ssh := (ss.same s1).same s
    refine ⟨rfl, ?_⟩
    repeat walk_at "ub1"
    refine rdM_tree T ssh ?_
    refine rdT_current T ssh.tree ?_
    repeat walk_at "ub1"
    refine ite_dec (fun c => ?_) (fun c => ?_)
    · repeat walk_at "ub1"
      refine ⟨_, hd, filt_len W ft.sm _ _, fun b o e => ?_, ?_⟩
      · rw [upd_ne (ne_of_none e hD)]
        exact s b o e
      · rw [upd_same, filt_more _ hj, if_pos (decide_eq_true (by omega)), vInts_app]
        rfl
    · refine ⟨s, ?_⟩
      rw [filt_more _ hj, if_neg (by rw [decide_eq_false (by omega)]; exact Bool.false_ne_true), List.append_nil]
      exact hd
  · rintro H' ⟨s, hd⟩
    rw [vInts_len, List.take_length] at hd
    have s3 := s1.trans s
    have ss3 := ss.same s3
    repeat walk_at "ub1"
    refine mtM ss3 ?_
    repeat walk_at "ub1"
    refine ⟨D, _, rfl, SqL.of hd, fun p4 n4 => ?_⟩
    have s4 := Same.new (o := .lst (vInts (M.tree.nums.filter fun j => decide (j < M.tree.current))).reverse) n4
    have er : (vInts (M.tree.nums.filter fun j => decide (j < M.tree.current))).reverse = vInts (M.tree.nums.filter fun j => decide (j < M.tree.current)).reverse := by
      unfold vInts
      rw [List.map_reverse]
    repeat walk_at "ub1"
    refine ⟨rfl, G, M, p4, _, n, rfl, ss3.same s4, ft, by rw [upd_same, er], fun j hj => ?_, ?_⟩
    · exact mem_nums.mp (List.mem_filter.mp (List.mem_reverse.mp hj)).1
    · intro H' G' p es ss' f nw e
      exact k H' G' p es ss' ((Same.fro (s3.trans s4)).trans f) (fun b o hb l => nw b o ((s3.trans s4) b o hb) l) e
def sp_Session_later (_K : PySem.W.Frag) (C : Cl) : Sp := spOp1 oLater C
abbrev s_Session_later : Stmt := inClass (topS 47) 14
theorem sc_Session_later : FnScope ["self", "n", "number"] ["self", "n"] (defScope s_Session_later) := ⟨rfl, rfl, rfl, by decide +kernel, rfl, by decide +kernel, by decide +kernel⟩
theorem b_Session_later : Bind "later" "Session.later" s_Session_later ["self", "n"] := fun _ _ _ _ _ _ us hl => match us, hl with | [_, _], _ => rfl
theorem ok_Session_later (T : Txt K mg C) (D : DefM K C.se "later" "Session.later" s_Session_later) (c_Session_moved_among : CalM P w K mg base 4 C.se "moved_among" ["self", "some", "n"] (sp_Session_moved_among K C)) (c_Tree_numbers : CalM P w K mg base 1 C.tr "numbers" ["self"] (sp_Tree_numbers K C)) : CalM P w K mg base 5 C.se "later" ["self", "n"] (sp_Session_later K C) := by
  refine D.cal b_Session_later fun f fd F => F.ok sc_Session_later (fun vs H Q E h => h.1) (fun cdv A outer s H vs Q E hr h => ?_)
  have hu := hu_of hr
  refine ⟨_, (pss_one (ps_ret (pm c_Session_moved_among T.cSe hr (by decide) (pv 0) (pa_cons (pe_lc (own := [("number", 2)]) (g := gName 2) rfl sc_Session_later.nd (pi_list (pm0 c_Tree_numbers T.cTr hr (by decide) (pe_fld (pv 0) rfl))) (blkOk_by (own := [("number", 2)]) (N := ["self", "n", "number"]) (sc := defScope s_Session_later) (by decide +kernel)) (fun _ _ _ _ _ => pg_name (i := 2) sc_Session_later.nd rfl (Or.inl rfl)) (fun _ _ _ _ _ => by exact pts_one (pt_cmpR op_gt (pv 2) (pfk (K0 := K) rfl (pfk (K0 := K) rfl (pv 0) rfl) rfl) (nomark _))) (fun _ _ _ _ _ => by exact (pv 2))) (pa_cons (pv 1) pa_nil))))), ?_⟩
  obtain ⟨_, G, M, n, rfl, ss, ft, k⟩ := h
  have W := ft.good.wf
  repeat walk_at "ub1"
  refine mtM ss ?_
  repeat walk_at "ub1"
  refine rdM_tree T ss ?_
  refine mtT ss.tree ?_
  repeat walk_at "ub1"
  refine ⟨rfl, G, M.tree, rfl, ss.tree, W, fun H1 p1 s1 n1 e1 => ?_⟩
  refine ⟨p1, rfl, ⟨_, SqL.of e1⟩, fun D hD => ?_⟩
  have s2 := Same.new (o := .lst []) hD
  refine lc_list (K := K) (a := p1) (xs := vInts M.tree.nums) (fun i H' => Same H1 H' ∧ H' D = some (.lst (vInts ((M.tree.nums.take i).filter fun j => decide (M.tree.current < j))))) ⟨s2, upd_same⟩ (fun i H' _ ⟨s, _⟩ => SqL.of (s _ _ e1)) ?_ ?_
  · rintro i z H' hi ⟨s, hd⟩
    obtain ⟨j, hj, rfl⟩ := vInts_at hi
    have ssh := (ss.same s1).same s
    refine ⟨rfl, ?_⟩
    repeat walk_at "ub1"
    refine rdM_tree T ssh ?_
    refine rdT_current T ssh.tree ?_
    repeat walk_at "ub1"
    refine ite_dec (fun c => ?_) (fun c => ?_)
    · repeat walk_at "ub1"
      refine ⟨_, hd, filt_len W ft.sm _ _, fun b o e => ?_, ?_⟩
      · rw [upd_ne (ne_of_none e hD)]
        exact s b o e
      · rw [upd_same, filt_more _ hj, if_pos (decide_eq_true (by omega)), vInts_app]
        rfl
    · refine ⟨s, ?_⟩
      rw [filt_more _ hj, if_neg (by rw [decide_eq_false (by omega)]; exact Bool.false_ne_true), List.append_nil]
      exact hd
  · rintro H' ⟨s, hd⟩
    rw [vInts_len, List.take_length] at hd
    have s3 := s1.trans s
    have ss3 := ss.same s3
    repeat walk_at "ub1"
    refine ⟨rfl, G, M, D, _, n, rfl, ss3, ft, hd, fun j hj => ?_, ?_⟩
    · exact mem_nums.mp (List.mem_filter.mp hj).1
    · intro H' G' p es ss' f nw e
      exact k H' G' p es ss' ((Same.fro s3).trans f) (fun b o hb l => nw b o (s3 b o hb) l) e
def sp_Session_ago (_K : PySem.W.Frag) (C : Cl) : Sp := spOp1 oAgo C
abbrev s_Session_ago : Stmt := inClass (topS 47) 15
theorem sc_Session_ago : FnScope ["self", "ticks", "tree", "some", "number"] ["self", "ticks"] (defScope s_Session_ago) := ⟨rfl, rfl, rfl, by decide +kernel, rfl, by decide +kernel, by decide +kernel⟩
theorem b_Session_ago : Bind "ago" "Session.ago" s_Session_ago ["self", "ticks"] := fun _ _ _ _ _ _ us hl => match us, hl with | [_, _], _ => rfl
theorem ok_Session_ago (T : Txt K mg C) (D : DefM K C.se "ago" "Session.ago" s_Session_ago) (c_Session_moved_among : CalM P w K mg base 4 C.se "moved_among" ["self", "some", "n"] (sp_Session_moved_among K C)) (c_Tree_state : CalM P w K mg base 1 C.tr "state" ["self", "number"] (sp_Tree_state K C)) (c_Tree_numbers : CalM P w K mg base 1 C.tr "numbers" ["self"] (sp_Tree_numbers K C)) : CalM P w K mg base 5 C.se "ago" ["self", "ticks"] (sp_Session_ago K C) := by
  refine D.cal b_Session_ago fun f fd F => F.ok sc_Session_ago (fun vs H Q E h => h.1) (fun cdv A outer s H vs Q E hr h => ?_)
  have hu := hu_of hr
  refine ⟨_, (pss_cons (ps_set (i := 2) sc_Session_ago.nd rfl (Or.inr rfl) (pe_fld (pv 0) rfl))
        (pss_cons (ps_setLc (i := 3) (own := [("number", 4)]) (g := gName 4) rfl sc_Session_ago.nd rfl rfl (sw_true rfl rfl rfl (by decide +kernel)) (pi_list (pm0 c_Tree_numbers T.cTr hr (by decide) (pv 2))) (blkOk_by (own := [("number", 4)]) (N := ["self", "ticks", "tree", "some", "number"]) (sc := defScope s_Session_ago) (by decide +kernel)) (fun _ _ _ _ _ => pg_name (i := 4) sc_Session_ago.nd rfl (Or.inl rfl)) (fun _ _ _ _ _ => by exact pts_one (pt_cmpR op_le (pe_op op_add (pfk (K0 := K) rfl (pm c_Tree_state T.cTr hr (by decide) (pv 2) (pa_cons (pv 4) pa_nil)) rfl) (pv 1)) (pfk (K0 := K) rfl (pv 0) rfl) (nomark _))) (fun _ _ _ _ _ => by exact (pv 4)))
        (pss_one (ps_ret (pm c_Session_moved_among T.cSe hr (by decide) (pv 0) (pa_cons (pe_revL (pv 3)) (pa_cons pe_int pa_nil))))))), ?_⟩
  obtain ⟨_, G, M, n, rfl, ss, ft, k⟩ := h
  have W := ft.good.wf
  repeat walk_at "ub1"
  refine rdM_tree T ss ?_
  repeat walk_at "ub1"
  refine mtT ss.tree ?_
  repeat walk_at "ub1"
  refine ⟨rfl, G, M.tree, rfl, ss.tree, W, fun H1 p1 s1 n1 e1 => ?_⟩
  refine ⟨p1, rfl, ⟨_, SqL.of e1⟩, fun D hD => ?_⟩
  have s2 := Same.new (o := .lst []) hD
  refine lc_list (K := K) (a := p1) (xs := vInts M.tree.nums) (fun i H' => Same H1 H' ∧ H' D = some (.lst (vInts (sel M.tree i fun x => decide (x.time + n ≤ M.clock))))) ⟨s2, upd_same⟩ (fun i H' _ ⟨s, _⟩ => SqL.of (s _ _ e1)) ?_ ?_
  · rintro i z H' hi ⟨s, hd⟩
    obtain ⟨j, hj, rfl⟩ := vInts_at hi
    obtain ⟨x, hx, rfl⟩ := nums_at hj
    have hf := W.find (List.mem_of_getElem? hx)
    have ssh := (ss.same s1).same s
    refine ⟨rfl, ?_⟩
    repeat walk_at "ub1"
    refine mtT ssh.tree ?_
    repeat walk_at "ub1"
    refine ⟨rfl, G, M.tree, x.number, x, rfl, ssh.tree, hf, ?_⟩
    refine rdS_time T ssh.tree hf ?_
    repeat walk_at "ub1"
    refine rdM_clock T ssh ?_
    repeat walk_at "ub1"
    refine ite_dec (fun c => ?_) (fun c => ?_)
    · repeat walk_at "ub1"
      refine ⟨_, hd, sel_len W ft.sm _ _, fun b o e => ?_, ?_⟩
      · rw [upd_ne (ne_of_none e hD)]
        exact s b o e
      · rw [upd_same, sel_more _ hx, if_pos (decide_eq_true (by omega)), vInts_app]
        rfl
    · refine ⟨s, ?_⟩
      rw [sel_more _ hx, if_neg (by rw [decide_eq_false (by omega)]; exact Bool.false_ne_true), List.append_nil]
      exact hd
  · rintro H' ⟨s, hd⟩
    rw [vInts_len, sel_end] at hd
    have s3 := s1.trans s
    have ss3 := ss.same s3
    repeat walk_at "ub1"
    refine mtM ss3 ?_
    repeat walk_at "ub1"
    refine ⟨D, _, rfl, SqL.of hd, fun p4 n4 => ?_⟩
    have er : (vInts ((M.tree.nodes.filter fun x => decide (x.time + n ≤ M.clock)).map fun x => x.number)).reverse = vInts (agoL M n).reverse := by
      unfold vInts agoL
      rw [List.map_reverse]
    rw [er]
    have s4 := Same.new (o := .lst (vInts (agoL M n).reverse)) n4
    repeat walk_at "ub1"
    refine ⟨rfl, G, M, p4, _, 1, rfl, ss3.same s4, ft, upd_same, fun j hj => ?_, ?_⟩
    · have hm := List.mem_reverse.mp hj
      unfold agoL at hm
      obtain ⟨x, hx, rfl⟩ := List.mem_map.mp hm
      exact ⟨x, W.find (List.mem_filter.mp hx).1⟩
    · intro H' G' p es ss' f nw e
      exact k H' G' p es ss' ((Same.fro (s3.trans s4)).trans f) (fun b o hb l => nw b o ((s3.trans s4) b o hb) l) e
def sp_Session_leaves (_K : PySem.W.Frag) (C : Cl) : Sp := spOp0 oLeaves C
theorem cons_ints (n : Nat) (l : List Nat) : V.int (n : Int) :: vInts l = ((n : Int) :: asInts l).map V.int := by
  rw [List.map_cons, asInts_vInts]
abbrev s_Session_leaves : Stmt := inClass (topS 47) 17
theorem sc_Session_leaves : FnScope ["self", "some", "number"] ["self"] (defScope s_Session_leaves) := ⟨rfl, rfl, rfl, by decide +kernel, rfl, by decide +kernel, by decide +kernel⟩
theorem b_Session_leaves : Bind "leaves" "Session.leaves" s_Session_leaves ["self"] := fun _ _ _ _ _ _ us hl => match us, hl with | [_], _ => rfl
theorem ok_Session_leaves (T : Txt K mg C) (D : DefM K C.se "leaves" "Session.leaves" s_Session_leaves) (c_Tree_state : CalM P w K mg base 1 C.tr "state" ["self", "number"] (sp_Tree_state K C)) (c_Tree_numbers : CalM P w K mg base 1 C.tr "numbers" ["self"] (sp_Tree_numbers K C)) : CalM P w K mg base 2 C.se "leaves" ["self"] (sp_Session_leaves K C) := by
  refine D.cal b_Session_leaves fun f fd F => F.ok sc_Session_leaves (fun vs H Q E h => h.1) (fun cdv A outer s H vs Q E hr h => ?_)
  have hu := hu_of hr
  refine ⟨_, (pss_cons (ps_setLc (i := 1) (own := [("number", 2)]) (g := gName 2) rfl sc_Session_leaves.nd rfl rfl (sw_true rfl rfl rfl (by decide +kernel)) (pi_list (pm0 c_Tree_numbers T.cTr hr (by decide) (pe_fld (pv 0) rfl))) (blkOk_by (own := [("number", 2)]) (N := ["self", "some", "number"]) (sc := defScope s_Session_leaves) (by decide +kernel)) (fun _ _ _ _ _ => pg_name (i := 2) sc_Session_leaves.nd rfl (Or.inl rfl)) (fun _ _ _ _ _ => by exact pts_one (pt_cmpR (op_eqEK (K0 := K) rfl hr.units) (pfk (K0 := K) rfl (pm c_Tree_state T.cTr hr (by decide) (pfk (K0 := K) rfl (pv 0) rfl) (pa_cons (pv 2) pa_nil)) rfl) (pe_lst pa_nil) (nomark _))) (fun _ _ _ _ _ => by exact (pv 2)))
        (pss_one (ps_ret (pe_op op_cat (pe_lst (pa_cons (pe_callB call_len_seq (by rfl) T.len PySem.boot_len (pa_cons (pv 1) pa_nil)) pa_nil)) (pv 1))))), ?_⟩
  obtain ⟨_, G, M, rfl, ss, ft, k⟩ := h
  have W := ft.good.wf
  repeat walk_at "ub1"
  refine rdM_tree T ss ?_
  refine mtT ss.tree ?_
  repeat walk_at "ub1"
  refine ⟨rfl, G, M.tree, rfl, ss.tree, W, fun H1 p1 s1 n1 e1 => ?_⟩
  refine ⟨p1, rfl, ⟨_, SqL.of e1⟩, fun D hD => ?_⟩
  have s2 := Same.new (o := .lst []) hD
  refine lc_list (K := K) (a := p1) (xs := vInts M.tree.nums) (fun i H' => Same H1 H' ∧ H' D = some (.lst (vInts (sel M.tree i fun x => x.children.isEmpty)))) ⟨s2, upd_same⟩ (fun i H' _ ⟨s, _⟩ => SqL.of (s _ _ e1)) ?_ ?_
  · rintro i z H' hi ⟨s, hd⟩
    obtain ⟨j, hj, rfl⟩ := vInts_at hi
    obtain ⟨x, hx, rfl⟩ := nums_at hj
    have hf := W.find (List.mem_of_getElem? hx)
    have ssh := (ss.same s1).same s
    refine ⟨rfl, ?_⟩
    repeat walk_at "ub1"
    refine rdM_tree T ssh ?_
    refine mtT ssh.tree ?_
    repeat walk_at "ub1"
    refine ⟨rfl, G, M.tree, x.number, x, rfl, ssh.tree, hf, ?_⟩
    refine rdS_children T ssh.tree hf fun ka h1 _ => ?_
    repeat walk_at "ub1"
    refine ⟨Nat.zero_le _, fun pe he => ?_⟩
    have s3 := Same.new (o := .lst []) he
    refine ⟨ka, pe, _, rfl, rfl, SqL.of (s3 _ _ h1), SqL.of upd_same, ?_⟩
    have hd3 := s3 _ _ hd
    have s13 := s.trans s3
    generalize upd H' pe (.lst []) = H3 at *
    rw [vInts_emp]
    repeat walk_at "ub1"
    refine ite_b (fun c => ?_) (fun c => ?_)
    · repeat walk_at "ub1"
      refine ⟨_, hd3, sel_len W ft.sm _ _, fun b o e => ?_, ?_⟩
      · rw [upd_ne (ne_of_none e hD)]
        exact s13 b o e
      · rw [upd_same, sel_more _ hx, if_pos c, vInts_app]
        rfl
    · refine ⟨s13, ?_⟩
      rw [sel_more _ hx, if_neg (by rw [c]; exact Bool.false_ne_true), List.append_nil]
      exact hd3
  · rintro H' ⟨s, hd⟩
    rw [vInts_len, sel_end] at hd
    have s3 := s1.trans s
    have ss3 := ss.same s3
    have hll : (leavesL M.tree).length ≤ 1000 := by
      unfold leavesL
      rw [List.length_map]
      exact Nat.le_trans (List.length_filter_le _ _) (small_nodes W ft.sm)
    have ed : ((M.tree.nodes.filter fun x => x.children.isEmpty).map fun x => x.number) = leavesL M.tree := rfl
    rw [ed] at hd
    repeat walk_at "ub1"
    refine ⟨D, _, rfl, .inl (SqL.of hd), ?_⟩
    repeat walk_at "ub1"
    refine ⟨one_line, fun p4 n4 => ?_⟩
    have s4 := Same.new (o := .lst [V.int (((vInts (leavesL M.tree)).length : Nat) : Int)]) n4
    repeat walk_at "ub1"
    refine ⟨p4, D, _, _, rfl, rfl, upd_same, s4 _ _ hd, big (by rw [List.length_singleton, vInts_len]; omega), fun p5 n5 => ?_⟩
    refine k.new rfl (ss3.same s4) (Same.fro (s3.trans s4)) n5 ?_
    rw [vInts_len]
    exact cons_ints _ _
def sp_Session_state_info (_K : PySem.W.Frag) (C : Cl) : Sp := spOp1 oInfo C
abbrev s_Session_state_info : Stmt := inClass (topS 47) 16
theorem sc_Session_state_info : FnScope ["self", "number", "state", "found"] ["self", "number"] (defScope s_Session_state_info) := ⟨rfl, rfl, rfl, by decide +kernel, rfl, by decide +kernel, by decide +kernel⟩
theorem b_Session_state_info : Bind "state_info" "Session.state_info" s_Session_state_info ["self", "number"] := fun _ _ _ _ _ _ us hl => match us, hl with | [_, _], _ => rfl
theorem ok_Session_state_info (T : Txt K mg C) (D : DefM K C.se "state_info" "Session.state_info" s_Session_state_info) (c_Tree_way_to : CalM P w K mg base 1 C.tr "way_to" ["self", "number"] (sp_Tree_way_to K C)) (c_Tree_state : CalM P w K mg base 1 C.tr "state" ["self", "number"] (sp_Tree_state K C)) (c_Tree_has : CalM P w K mg base 1 C.tr "has" ["self", "number"] (sp_Tree_has K C)) : CalM P w K mg base 2 C.se "state_info" ["self", "number"] (sp_Session_state_info K C) := by
  refine D.cal b_Session_state_info fun f fd F => F.ok sc_Session_state_info (fun vs H Q E h => h.1) (fun cdv A outer s H vs Q E hr h => ?_)
  have hu := hu_of hr
  refine ⟨_, (pss_cons (ps_if (pt_not (pt_val (pm c_Tree_has T.cTr hr (by decide) (pe_fld (pv 0) rfl) (pa_cons (pv 1) pa_nil)))) (pss_one (ps_ret (pe_lst (pa_cons (pk T.kNO_STATE rfl) pa_nil)))) pss_nil)
        (pss_cons (ps_set (i := 2) sc_Session_state_info.nd rfl (Or.inl rfl) (pm c_Tree_state T.cTr hr (by decide) (pe_fld (pv 0) rfl) (pa_cons (pv 1) pa_nil)))
        (pss_cons (ps_set (i := 3) sc_Session_state_info.nd rfl (Or.inl rfl) (pe_lst (pa_cons (pe_op op_add (pe_fld (pv 2) rfl) pe_int) (pa_cons (pe_fld (pv 2) rfl) (pa_cons (pe_op op_sub (pe_callB call_len_seq (by rfl) T.len PySem.boot_len (pa_cons (pm c_Tree_way_to T.cTr hr (by decide) (pe_fld (pv 0) rfl) (pa_cons (pv 1) pa_nil)) pa_nil)) pe_int) (pa_cons (pe_callTy call_int1 (by rfl) T.int (by decide +kernel) (pa_cons (pe_fld (pv 2) rfl) pa_nil)) pa_nil))))))
        (pss_one (ps_ret (pe_op op_cat (pe_op op_cat (pv 3) (pe_lst (pa_cons (pe_callB call_len_seq (by rfl) T.len PySem.boot_len (pa_cons (pe_fld (pv 2) rfl) pa_nil)) (pa_cons (pe_callB call_len_seq (by rfl) T.len PySem.boot_len (pa_cons (pe_fld (pv 2) rfl) pa_nil)) pa_nil)))) (pe_fld (pv 2) rfl))))))), ?_⟩
  obtain ⟨_, G, M, n, rfl, ss, ft, k⟩ := h
  have W := ft.good.wf
  unfold oInfo at k
  repeat walk_at "ub1"
  refine rdM_tree T ss ?_
  refine mtT ss.tree ?_
  repeat walk_at "ub1"
  refine ⟨rfl, G, M.tree, n, rfl, ss.tree, ?_⟩
  repeat walk_at "ub1"
  refine ite_nb (fun e => ?_) (fun e => ?_)
  · have en : M.tree.find n = none := by
      unfold Tr.has at e
      exact Option.isNone_iff_eq_none.mp (by simpa using e)
    rw [en] at k
    repeat walk_at "ub1"
    exact ⟨one_line, fun p hp => k.new rfl ss FrO.refl hp rfl⟩
  · obtain ⟨x, hx⟩ := has_iff.mp e
    rw [hx] at k
    have hkl := kids_len W (mem_of_find hx).1
    have hnl := small_nodes W ft.sm
    repeat walk_at "ub1"
    refine rdM_tree T ss ?_
    refine mtT ss.tree ?_
    repeat walk_at "ub1"
    refine ⟨rfl, G, M.tree, n, x, rfl, ss.tree, hx, ?_⟩
    repeat walk_at "ub1"
    refine rdS_parent T ss.tree hx ?_
    repeat walk_at "ub1"
    refine rdS_time T ss.tree hx ?_
    repeat walk_at "ub1"
    refine rdM_tree T ss ?_
    refine mtT ss.tree ?_
    repeat walk_at "ub1"
    refine ⟨rfl, G, M.tree, n, x, rfl, ss.tree, W, ft.sm, hx, fun H1 p1 s1 n1 e1 => ?_⟩
    have ss1 := ss.same s1
    repeat walk_at "ub1"
    refine ⟨p1, _, rfl, .inl (SqL.of e1), ?_⟩
    repeat walk_at "ub1"
    refine rdS_kept T ss1.tree hx ?_
    repeat walk_at "ub1"
    refine .inr ⟨_, rfl, ?_⟩
    repeat walk_at "ub1"
    refine ⟨by show 4 ≤ sizeLine; decide, fun p2 n2 => ?_⟩
    have s2 := s1.trans (Same.new (o := .lst [V.int (encP x.parent + 1), iV x.time, V.int (((vInts (wayTo M.tree n)).length : Nat) - 1), V.int (if x.kept = true then 1 else 0)]) n2)
    have ss2 := ss.same s2
    repeat walk_at "ub1"
    refine rdS_changes T ss2.tree hx fun ca as c1 c2 c3 => ?_
    repeat walk_at "ub1"
    refine ⟨ca, _, rfl, .inl (SqL.of c1), ?_⟩
    repeat walk_at "ub1"
    refine rdS_children T ss2.tree hx fun ka k1 k2 => ?_
    repeat walk_at "ub1"
    refine ⟨ka, _, rfl, .inl (SqL.of k1), ?_⟩
    repeat walk_at "ub1"
    refine ⟨two_line, fun p3 n3 => ?_⟩
    have s3 := Same.new (o := .lst [V.int (((as.map V.ref).length : Nat) : Int), V.int (((vInts x.children).length : Nat) : Int)]) n3
    refine ⟨p2, p3, _, _, rfl, rfl, s3 _ _ upd_same, upd_same, by show 6 ≤ sizeLine; decide, fun p4 n4 => ?_⟩
    have s4 := s3.trans (Same.new (o := .lst ([V.int (encP x.parent + 1), iV x.time, V.int (((vInts (wayTo M.tree n)).length : Nat) - 1), V.int (if x.kept = true then 1 else 0)] ++ [V.int (((as.map V.ref).length : Nat) : Int), V.int (((vInts x.children).length : Nat) : Int)])) n4)
    have ss4 := ss2.same s4
    repeat walk_at "ub1"
    refine rdS_children T ss4.tree hx fun kb k3 k4 => ?_
    refine ⟨p4, kb, _, _, rfl, rfl, upd_same, k3, big (by simp [vInts_len]; omega), fun p5 n5 => ?_⟩
    refine k.new rfl ss4 (Same.fro (s2.trans s4)) n5 ?_
    rw [vInts_len, vInts_len, List.length_map, paired_len c3]
    show _ = List.map V.int ([encP x.parent + 1, (x.time : Int), ((wayTo M.tree n).length : Int) - 1, if x.kept = true then 1 else 0, (x.changes.length : Int), (x.children.length : Int)] ++ asInts x.children)
    rw [List.map_append, asInts_vInts]
    rfl
def sp_Session_path (_K : PySem.W.Frag) (C : Cl) : Sp := fun vs H Q _ => vs.length = 3 ∧ ∃ (G : Gh) (M : Se) (a b : Nat), vs = [.ref G.s, iV a, iV b] ∧ SessAt C G H M ∧ Fit M ∧ Ret C G H Q (oPath M a b)
abbrev s_Session_path : Stmt := inClass (topS 47) 18
theorem sc_Session_path : FnScope ["self", "start", "goal", "some"] ["self", "start", "goal"] (defScope s_Session_path) := ⟨rfl, rfl, rfl, by decide +kernel, rfl, by decide +kernel, by decide +kernel⟩
theorem b_Session_path : Bind "path" "Session.path" s_Session_path ["self", "start", "goal"] := fun _ _ _ _ _ _ us hl => match us, hl with | [_, _, _], _ => rfl
theorem ok_Session_path (T : Txt K mg C) (D : DefM K C.se "path" "Session.path" s_Session_path) (c_path_of : CalF P w K mg base 2 "path_of" ["tree", "start", "goal"] (sp_path_of K C)) (c_Tree_has : CalM P w K mg base 1 C.tr "has" ["self", "number"] (sp_Tree_has K C)) : CalM P w K mg base 3 C.se "path" ["self", "start", "goal"] (sp_Session_path K C) := by
  refine D.cal b_Session_path fun f fd F => F.ok sc_Session_path (fun vs H Q E h => h.1) (fun cdv A outer s H vs Q E hr h => ?_)
  have hu := hu_of hr
  refine ⟨_, (pss_cons (ps_if (PW.pt (pw_or (pt_not (pt_val (pm c_Tree_has T.cTr hr (by decide) (pe_fld (pv 0) rfl) (pa_cons (pv 1) pa_nil)))) (pw_or1 (pt_not (pt_val (pm c_Tree_has T.cTr hr (by decide) (pe_fld (pv 0) rfl) (pa_cons (pv 2) pa_nil))))))) (pss_one (ps_ret (pe_lst (pa_cons (pk T.kNO_STATE rfl) pa_nil)))) pss_nil)
        (pss_cons (ps_set (i := 3) sc_Session_path.nd rfl (Or.inl rfl) (pf c_path_of hr (by decide) (by rfl) (pa_cons (pe_fld (pv 0) rfl) (pa_cons (pv 1) (pa_cons (pv 2) pa_nil)))))
        (pss_one (ps_ret (pe_op op_cat (pe_lst (pa_cons (pe_callB call_len_seq (by rfl) T.len PySem.boot_len (pa_cons (pv 3) pa_nil)) pa_nil)) (pv 3)))))), ?_⟩
  obtain ⟨_, G, M, a, b, rfl, ss, ft, k⟩ := h
  have W := ft.good.wf
  unfold oPath at k
  repeat walk_at "ub1"
  refine rdM_tree T ss ?_
  refine mtT ss.tree ?_
  repeat walk_at "ub1"
  refine ⟨rfl, G, M.tree, a, rfl, ss.tree, ?_⟩
  repeat walk_at "ub1"
  refine ite_nb (fun ea => ?_) (fun ea => ?_)
  · rw [if_neg (by rw [ea]; simp)] at k
    repeat walk_at "ub1"
    exact ⟨one_line, fun p hp => k.new rfl ss FrO.refl hp rfl⟩
  · repeat walk_at "ub1"
    refine rdM_tree T ss ?_
    refine mtT ss.tree ?_
    repeat walk_at "ub1"
    refine ⟨rfl, G, M.tree, b, rfl, ss.tree, ?_⟩
    repeat walk_at "ub1"
    refine ite_nb (fun eb => ?_) (fun eb => ?_)
    · rw [if_neg (by rw [eb]; simp)] at k
      repeat walk_at "ub1"
      exact ⟨one_line, fun p hp => k.new rfl ss FrO.refl hp rfl⟩
    · rw [if_pos ⟨ea, eb⟩] at k
      obtain ⟨x, hx⟩ := has_iff.mp ea
      obtain ⟨y, hy⟩ := has_iff.mp eb
      have l1 := way_small W ft.sm hx
      have l2 := way_small W ft.sm hy
      have hpl : (pathOf M.tree a b).length ≤ 3000 := by
        unfold pathOf
        rw [List.length_append, List.length_reverse, List.length_drop, List.length_drop]
        omega
      repeat walk_at "ub1"
      refine rdM_tree T ss ?_
      repeat walk_at "ub1"
      refine ⟨rfl, G, M.tree, a, b, x, y, rfl, ss.tree, W, ft.sm, hx, hy, fun H1 p1 s1 n1 e1 => ?_⟩
      repeat walk_at "ub1"
      refine ⟨p1, _, rfl, .inl (SqL.of e1), ?_⟩
      repeat walk_at "ub1"
      refine ⟨one_line, fun p4 n4 => ?_⟩
      have s4 := Same.new (o := .lst [V.int (((vInts (pathOf M.tree a b)).length : Nat) : Int)]) n4
      repeat walk_at "ub1"
      refine ⟨p4, p1, _, _, rfl, rfl, upd_same, s4 _ _ e1, big (by rw [List.length_singleton, vInts_len]; omega), fun p5 n5 => ?_⟩
      refine k.new rfl (ss.same (s1.trans s4)) (Same.fro (s1.trans s4)) n5 ?_
      rw [vInts_len]
      exact cons_ints _ _
theorem originsOf_len {M : Tr} (W : WF M) (sm : Sm M) (hc : Chm M) : (originsOf M).length ≤ 8000000 := by
  obtain ⟨r, hr0, _⟩ := W.root
  obtain ⟨c, hcur⟩ := W.cur
  have h1 := obs_len W hc (wayTo M M.current).tail (List.replicate (textOf M M.root).length M.root)
  have h2 := way_len W _ _ hcur
  have h3 := find_lt W hcur
  have h4 : M.coming ≤ 200 := sm
  have h5 := W.len r (mem_of_find hr0).1
  rw [List.length_replicate, textOf_of hr0, List.length_tail] at h1
  have e : originsOf M = obs M (wayTo M M.current).tail (List.replicate (textOf M M.root).length M.root) := rfl
  rw [e, textOf_of hr0]
  omega
def sp_Session_origins (_K : PySem.W.Frag) (C : Cl) : Sp := spOp0 oOrigins C
abbrev s_Session_origins : Stmt := inClass (topS 47) 19
theorem sc_Session_origins : FnScope ["self", "some"] ["self"] (defScope s_Session_origins) := ⟨rfl, rfl, rfl, by decide +kernel, rfl, by decide +kernel, by decide +kernel⟩
theorem b_Session_origins : Bind "origins" "Session.origins" s_Session_origins ["self"] := fun _ _ _ _ _ _ us hl => match us, hl with | [_], _ => rfl
theorem ok_Session_origins (T : Txt K mg C) (D : DefM K C.se "origins" "Session.origins" s_Session_origins) (c_origins_of : CalF P w K mg base 3 "origins_of" ["tree"] (sp_origins_of K C)) : CalM P w K mg base 4 C.se "origins" ["self"] (sp_Session_origins K C) := by
  refine D.cal b_Session_origins fun f fd F => F.ok sc_Session_origins (fun vs H Q E h => h.1) (fun cdv A outer s H vs Q E hr h => ?_)
  have hu := hu_of hr
  refine ⟨_, (pss_cons (ps_if (pt_val (pe_fld (pv 0) rfl)) (pss_one (ps_ret (pe_lst (pa_cons (pk T.kGROUP rfl) pa_nil)))) pss_nil)
        (pss_cons (ps_set (i := 1) sc_Session_origins.nd rfl (Or.inl rfl) (pf c_origins_of hr (by decide) (by rfl) (pa_cons (pe_fld (pv 0) rfl) pa_nil)))
        (pss_one (ps_ret (pe_op op_cat (pe_lst (pa_cons (pe_callB call_len_seq (by rfl) T.len PySem.boot_len (pa_cons (pv 1) pa_nil)) pa_nil)) (pv 1)))))), ?_⟩
  obtain ⟨_, G, M, rfl, ss, ft, k⟩ := h
  have W := ft.good.wf
  unfold oOrigins at k
  repeat walk_at "ub1"
  refine rdM_open T ss ?_
  repeat walk_at "ub1"
  cases hg : M.group with
  | some g =>
    rw [alone_some hg] at k
    refine iteT ?_
    repeat walk_at "ub1"
    exact ⟨one_line, fun p hp => k.new rfl ss FrO.refl hp rfl⟩
  | none =>
    rw [alone_none hg] at k
    refine iteF ?_
    have hol := originsOf_len W ft.sm ft.chm
    repeat walk_at "ub1"
    refine rdM_tree T ss ?_
    repeat walk_at "ub1"
    refine ⟨rfl, G, M.tree, rfl, ss.tree, W, ft.sm, ft.chm, fun H1 p1 s1 e1 => ?_⟩
    repeat walk_at "ub1"
    refine ⟨p1, _, rfl, .inl (SqL.of e1), ?_⟩
    repeat walk_at "ub1"
    refine ⟨one_line, fun p4 n4 => ?_⟩
    have s4 := Same.new (o := .lst [V.int (((vInts (originsOf M.tree)).length : Nat) : Int)]) n4
    repeat walk_at "ub1"
    refine ⟨p4, p1, _, _, rfl, rfl, upd_same, s4 _ _ e1, big (by rw [List.length_singleton, vInts_len]; omega), fun p5 n5 => ?_⟩
    refine k.new rfl (ss.same (s1.trans s4)) (Same.fro (s1.trans s4)) n5 ?_
    rw [vInts_len]
    exact cons_ints _ _
def sp_Session_get_text (_K : PySem.W.Frag) (C : Cl) : Sp := spOp0 oShows C
abbrev s_Session_get_text : Stmt := inClass (topS 47) 25
theorem sc_Session_get_text : FnScope ["self", "text"] ["self"] (defScope s_Session_get_text) := ⟨rfl, rfl, rfl, by decide +kernel, rfl, by decide +kernel, by decide +kernel⟩
theorem b_Session_get_text : Bind "get_text" "Session.get_text" s_Session_get_text ["self"] := fun _ _ _ _ _ _ us hl => match us, hl with | [_], _ => rfl
theorem ok_Session_get_text (T : Txt K mg C) (D : DefM K C.se "get_text" "Session.get_text" s_Session_get_text) (c_Session_text_now : CalM P w K mg base 2 C.se "text_now" ["self"] (sp_Session_text_now K C)) : CalM P w K mg base 3 C.se "get_text" ["self"] (sp_Session_get_text K C) := by
  refine D.cal b_Session_get_text fun f fd F => F.ok sc_Session_get_text (fun vs H Q E h => h.1) (fun cdv A outer s H vs Q E hr h => ?_)
  have hu := hu_of hr
  refine ⟨_, (pss_cons (ps_set (i := 1) sc_Session_get_text.nd rfl (Or.inl rfl) (pm0 c_Session_text_now T.cSe hr (by decide) (pv 0)))
        (pss_one (ps_ret (pe_op op_cat (pe_lst (pa_cons (pe_callB call_len_seq (by rfl) T.len PySem.boot_len (pa_cons (pv 1) pa_nil)) pa_nil)) (pv 1))))), ?_⟩
  obtain ⟨_, G, M, rfl, ss, ft, k⟩ := h
  have W := ft.good.wf
  have hnl := now_len ft
  repeat walk_at "ub1"
  refine mtM ss ?_
  repeat walk_at "ub1"
  refine ⟨rfl, G, M, rfl, ss, W, fun ta ht => ?_⟩
  repeat walk_at "ub1"
  refine ⟨ta, _, rfl, .inl (SqL.of ht.1), ?_⟩
  repeat walk_at "ub1"
  refine ⟨one_line, fun p4 n4 => ?_⟩
  have s4 := Same.new (o := .lst [V.int (((vInts M.textNow).length : Nat) : Int)]) n4
  repeat walk_at "ub1"
  refine ⟨p4, ta, _, _, rfl, rfl, upd_same, s4 _ _ ht.1, big (by rw [List.length_singleton, vInts_len]; omega), fun p5 n5 => ?_⟩
  refine k.new rfl (ss.same s4) (Same.fro s4) n5 ?_
  rw [vInts_len]
  exact cons_ints _ _
def sp_Session_text_of (_K : PySem.W.Frag) (C : Cl) : Sp := spOp1 oText C
abbrev s_Session_text_of : Stmt := inClass (topS 47) 24
theorem sc_Session_text_of : FnScope ["self", "number", "text"] ["self", "number"] (defScope s_Session_text_of) := ⟨rfl, rfl, rfl, by decide +kernel, rfl, by decide +kernel, by decide +kernel⟩
theorem b_Session_text_of : Bind "text_of" "Session.text_of" s_Session_text_of ["self", "number"] := fun _ _ _ _ _ _ us hl => match us, hl with | [_, _], _ => rfl
theorem ok_Session_text_of (T : Txt K mg C) (D : DefM K C.se "text_of" "Session.text_of" s_Session_text_of) (c_Tree_state : CalM P w K mg base 1 C.tr "state" ["self", "number"] (sp_Tree_state K C)) (c_Tree_has : CalM P w K mg base 1 C.tr "has" ["self", "number"] (sp_Tree_has K C)) : CalM P w K mg base 2 C.se "text_of" ["self", "number"] (sp_Session_text_of K C) := by
  refine D.cal b_Session_text_of fun f fd F => F.ok sc_Session_text_of (fun vs H Q E h => h.1) (fun cdv A outer s H vs Q E hr h => ?_)
  have hu := hu_of hr
  refine ⟨_, (pss_cons (ps_if (pt_not (pt_val (pm c_Tree_has T.cTr hr (by decide) (pe_fld (pv 0) rfl) (pa_cons (pv 1) pa_nil)))) (pss_one (ps_ret (pe_lst (pa_cons (pk T.kNO_STATE rfl) pa_nil)))) pss_nil)
        (pss_cons (ps_set (i := 2) sc_Session_text_of.nd rfl (Or.inl rfl) (pe_fld (pm c_Tree_state T.cTr hr (by decide) (pe_fld (pv 0) rfl) (pa_cons (pv 1) pa_nil)) rfl))
        (pss_one (ps_ret (pe_op op_cat (pe_lst (pa_cons (pe_callB call_len_seq (by rfl) T.len PySem.boot_len (pa_cons (pv 2) pa_nil)) pa_nil)) (pv 2)))))), ?_⟩
  obtain ⟨_, G, M, n, rfl, ss, ft, k⟩ := h
  have W := ft.good.wf
  unfold oText at k
  repeat walk_at "ub1"
  refine rdM_tree T ss ?_
  refine mtT ss.tree ?_
  repeat walk_at "ub1"
  refine ⟨rfl, G, M.tree, n, rfl, ss.tree, ?_⟩
  repeat walk_at "ub1"
  refine ite_nb (fun e => ?_) (fun e => ?_)
  · rw [if_neg (by rw [e]; exact Bool.false_ne_true)] at k
    repeat walk_at "ub1"
    exact ⟨one_line, fun p hp => k.new rfl ss FrO.refl hp rfl⟩
  · rw [if_pos e] at k
    obtain ⟨x, hx⟩ := has_iff.mp e
    have hxl := W.len x (mem_of_find hx).1
    repeat walk_at "ub1"
    refine rdM_tree T ss ?_
    refine mtT ss.tree ?_
    repeat walk_at "ub1"
    refine ⟨rfl, G, M.tree, n, x, rfl, ss.tree, hx, ?_⟩
    refine rdS_text T ss.tree hx fun ta ht => ?_
    repeat walk_at "ub1"
    refine ⟨ta, _, rfl, .inl (SqL.of ht.1), ?_⟩
    repeat walk_at "ub1"
    refine ⟨one_line, fun p4 n4 => ?_⟩
    have s4 := Same.new (o := .lst [V.int (((vInts x.text).length : Nat) : Int)]) n4
    repeat walk_at "ub1"
    refine ⟨p4, ta, _, _, rfl, rfl, upd_same, s4 _ _ ht.1, big (by rw [List.length_singleton, vInts_len]; omega), fun p5 n5 => ?_⟩
    refine k.new rfl (ss.same s4) (Same.fro s4) n5 ?_
    rw [vInts_len, textOf_of hx]
    exact cons_ints _ _
def sp_Session_forgotten (_K : PySem.W.Frag) (C : Cl) : Sp := spOp1 oForget C
abbrev s_Session_forgotten : Stmt := inClass (topS 47) 23
theorem sc_Session_forgotten : FnScope ["self", "limit", "gone"] ["self", "limit"] (defScope s_Session_forgotten) := ⟨rfl, rfl, rfl, by decide +kernel, rfl, by decide +kernel, by decide +kernel⟩
theorem b_Session_forgotten : Bind "forgotten" "Session.forgotten" s_Session_forgotten ["self", "limit"] := fun _ _ _ _ _ _ us hl => match us, hl with | [_, _], _ => rfl
theorem ok_Session_forgotten (T : Txt K mg C) (D : DefM K C.se "forgotten" "Session.forgotten" s_Session_forgotten) (c_forget : CalF P w K mg base 5 "forget" ["tree", "limit"] (sp_forget K C)) : CalM P w K mg base 6 C.se "forgotten" ["self", "limit"] (sp_Session_forgotten K C) := by
  refine D.cal b_Session_forgotten fun f fd F => F.ok sc_Session_forgotten (fun vs H Q E h => h.1) (fun cdv A outer s H vs Q E hr h => ?_)
  have hu := hu_of hr
  refine ⟨_, (pss_cons (ps_if (pt_val (pe_fld (pv 0) rfl)) (pss_one (ps_ret (pe_lst (pa_cons (pk T.kGROUP rfl) pa_nil)))) pss_nil)
        (pss_cons (ps_if (pt_cmpR op_eq (pv 1) pe_int (nomark _)) (pss_one (ps_ret (pe_lst (pa_cons (pk T.kOUT_OF_RANGE rfl) pa_nil)))) pss_nil)
        (pss_cons (ps_set (i := 2) sc_Session_forgotten.nd rfl (Or.inl rfl) (pf c_forget hr (by decide) (by rfl) (pa_cons (pe_fld (pv 0) rfl) (pa_cons (pv 1) pa_nil))))
        (pss_one (ps_ret (pe_op op_cat (pe_lst (pa_cons (pe_callB call_len_seq (by rfl) T.len PySem.boot_len (pa_cons (pv 2) pa_nil)) pa_nil)) (pv 2))))))), ?_⟩
  obtain ⟨_, G, M, n, rfl, ss, ft, k⟩ := h
  have W := ft.good.wf
  unfold oForget at k
  repeat walk_at "ub1"
  refine rdM_open T ss ?_
  repeat walk_at "ub1"
  cases hg : M.group with
  | some g =>
    rw [alone_some hg] at k
    refine iteT ?_
    repeat walk_at "ub1"
    exact ⟨one_line, fun p hp => k.new rfl ss FrO.refl hp rfl⟩
  | none =>
    rw [alone_none hg] at k
    refine iteF ?_
    repeat walk_at "ub1"
    refine ite_dec (fun e => ?_) (fun e => ?_)
    · rw [if_pos (by omega)] at k
      repeat walk_at "ub1"
      exact ⟨one_line, fun p hp => k.new rfl ss FrO.refl hp rfl⟩
    · rw [if_neg (by omega)] at k
      have l1 := woLeaves_len M.tree.nodes.length W n []
      have W1 := (woLeaves_keeps M.tree.nodes.length W n []).1
      have l2 := woRoots_len (woLeaves M.tree.nodes.length M.tree n []).1.nodes.length W1 n []
      have hnl := small_nodes W ft.sm
      have hfl : (forgetT M.tree n).2.length ≤ 1000 := by
        show ((woLeaves M.tree.nodes.length M.tree n []).2 ++ (woRoots (woLeaves M.tree.nodes.length M.tree n []).1.nodes.length (woLeaves M.tree.nodes.length M.tree n []).1 n []).2).length ≤ 1000
        rw [List.length_append]
        simp only [List.length_nil] at l1 l2
        omega
      repeat walk_at "ub1"
      refine rdM_tree T ss ?_
      repeat walk_at "ub1"
      refine ⟨rfl, G, M.tree, n, rfl, ss.tree, W, ft.sm, fun H1 p1 tr1 f1 n1 e1 => ?_⟩
      have ss1 := ss.turn f1 tr1
      repeat walk_at "ub1"
      refine ⟨p1, _, rfl, .inl (SqL.of e1), ?_⟩
      repeat walk_at "ub1"
      refine ⟨one_line, fun p4 n4 => ?_⟩
      have s4 := Same.new (o := .lst [V.int (((vInts (forgetT M.tree n).2).length : Nat) : Int)]) n4
      repeat walk_at "ub1"
      refine ⟨p4, p1, _, _, rfl, rfl, upd_same, s4 _ _ e1, big (by rw [List.length_singleton, vInts_len]; omega), fun p5 n5 => ?_⟩
      refine k.new rfl (ss1.same s4) (f1.fro.trans (Same.fro s4)) n5 ?_
      rw [vInts_len]
      exact cons_ints _ _
end
/-! ### operations: reverting -/
section
variable {P : Program} {w : World} {K : PySem.W.Frag} {mg : Str → Option Value} {base : Heap} {C : Cl}
def whyNot (M : Se) (n : Nat) : Int := if M.group.isSome = true then -9 else match M.tree.find n with
  | none => -2
  | some x => if n = M.tree.root ∨ (wayTo M.tree M.tree.current).contains n = false then -6 else if 1 < x.changes.length then -4 else 0
theorem inV_nat (n : Nat) (l : List Nat) : inV (iV n) (vInts l) = l.contains n := inV_vInts (some n) l
def sp_Session_why_not_reverted (_K : PySem.W.Frag) (C : Cl) : Sp := fun vs H Q _ => vs.length = 2 ∧ ∃ (G : Gh) (M : Se) (n : Nat), vs = [.ref G.s, iV n] ∧ SessAt C G H M ∧ Fit M ∧ ∀ H', Same H H' → Q (.int (whyNot M n)) H'
abbrev s_Session_why_not_reverted : Stmt := inClass (topS 47) 20
theorem sc_Session_why_not_reverted : FnScope ["self", "number"] ["self", "number"] (defScope s_Session_why_not_reverted) := ⟨rfl, rfl, rfl, by decide +kernel, rfl, by decide +kernel, by decide +kernel⟩
theorem b_Session_why_not_reverted : Bind "why_not_reverted" "Session.why_not_reverted" s_Session_why_not_reverted ["self", "number"] := fun _ _ _ _ _ _ us hl => match us, hl with | [_, _], _ => rfl
theorem ok_Session_why_not_reverted (T : Txt K mg C) (D : DefM K C.se "why_not_reverted" "Session.why_not_reverted" s_Session_why_not_reverted) (c_Tree_state : CalM P w K mg base 1 C.tr "state" ["self", "number"] (sp_Tree_state K C)) (c_Tree_way_to : CalM P w K mg base 1 C.tr "way_to" ["self", "number"] (sp_Tree_way_to K C)) (c_Tree_has : CalM P w K mg base 1 C.tr "has" ["self", "number"] (sp_Tree_has K C)) : CalM P w K mg base 2 C.se "why_not_reverted" ["self", "number"] (sp_Session_why_not_reverted K C) := by
  refine D.cal b_Session_why_not_reverted fun f fd F => F.ok sc_Session_why_not_reverted (fun vs H Q E h => h.1) (fun cdv A outer s H vs Q E hr h => ?_)
  have hu := hu_of hr
  refine ⟨_, (pss_cons (ps_if (pt_val (pe_fld (pv 0) rfl)) (pss_one (ps_ret (pk T.kGROUP rfl))) pss_nil)
        (pss_cons (ps_if (pt_not (pt_val (pm c_Tree_has T.cTr hr (by decide) (pe_fld (pv 0) rfl) (pa_cons (pv 1) pa_nil)))) (pss_one (ps_ret (pk T.kNO_STATE rfl))) pss_nil)
        (pss_cons (ps_if (PW.pt (pw_or (pt_cmpR op_eq (pv 1) (pe_fld (pe_fld (pv 0) rfl) rfl) (nomark _)) (pw_or1 (pt_cmpR op_notIn_seq (pv 1) (pm c_Tree_way_to T.cTr hr (by decide) (pe_fld (pv 0) rfl) (pa_cons (pe_fld (pe_fld (pv 0) rfl) rfl) pa_nil)) (by rfl))))) (pss_one (ps_ret (pk T.kNOT_ON_PATH rfl))) pss_nil)
        (pss_one (ps_ret (pe_ifExp (pt_cmpR op_gt (pe_callB call_len_seq (by rfl) T.len PySem.boot_len (pa_cons (pe_fld (pm c_Tree_state T.cTr hr (by decide) (pe_fld (pv 0) rfl) (pa_cons (pv 1) pa_nil)) rfl) pa_nil)) pe_int (nomark _)) (pk T.kMANY_CHANGES rfl) pe_int)))))), ?_⟩
  obtain ⟨_, G, M, n, rfl, ss, ft, k⟩ := h
  have W := ft.good.wf
  obtain ⟨c, hcur⟩ := W.cur
  unfold whyNot at k
  repeat walk_at "ub1"
  refine rdM_open T ss ?_
  repeat walk_at "ub1"
  cases hg : M.group with
  | some g =>
    rw [hg] at k
    refine iteT ?_
    repeat walk_at "ub1"
    exact k H (.refl H)
  | none =>
    rw [hg] at k
    refine iteF ?_
    repeat walk_at "ub1"
    refine rdM_tree T ss ?_
    refine mtT ss.tree ?_
    repeat walk_at "ub1"
    refine ⟨rfl, G, M.tree, n, rfl, ss.tree, ?_⟩
    repeat walk_at "ub1"
    refine ite_nb (fun e => ?_) (fun e => ?_)
    · have en : M.tree.find n = none := by
        unfold Tr.has at e
        exact Option.isNone_iff_eq_none.mp (by simpa using e)
      rw [en] at k
      repeat walk_at "ub1"
      exact k H (.refl H)
    · obtain ⟨x, hx⟩ := has_iff.mp e
      rw [hx] at k
      have k' : ∀ H', Same H H' → Q (.int (if n = M.tree.root ∨ (wayTo M.tree M.tree.current).contains n = false then -6 else if 1 < x.changes.length then -4 else 0)) H' := k
      repeat walk_at "ub1"
      refine rdM_tree T ss ?_
      refine rdT_root T ss.tree ?_
      repeat walk_at "ub1"
      refine ite_dec (fun c1 => ?_) (fun c1 => ?_)
      · rw [if_pos (.inl (by omega))] at k'
        repeat walk_at "ub1"
        exact k' H (.refl H)
      · repeat walk_at "ub1"
        refine rdM_tree T ss ?_
        refine mtT ss.tree ?_
        repeat walk_at "ub1"
        refine rdM_tree T ss ?_
        refine rdT_current T ss.tree ?_
        repeat walk_at "ub1"
        refine ⟨rfl, G, M.tree, M.tree.current, c, rfl, ss.tree, W, ft.sm, hcur, fun H1 p1 s1 n1 e1 => ?_⟩
        refine ⟨p1, _, rfl, .inl (SqL.of e1), rfl, flat_vInts _, ?_⟩
        rw [if_pos rfl, inV_nat]
        repeat walk_at "ub1"
        refine ite_nb (fun c2 => ?_) (fun c2 => ?_)
        · rw [if_pos (.inr c2)] at k'
          repeat walk_at "ub1"
          exact k' H1 s1
        · rw [if_neg (not_or.mpr ⟨by omega, by rw [c2]; simp⟩)] at k'
          have ss1 := ss.same s1
          repeat walk_at "ub1"
          refine rdM_tree T ss1 ?_
          refine mtT ss1.tree ?_
          repeat walk_at "ub1"
          refine ⟨rfl, G, M.tree, n, x, rfl, ss1.tree, hx, ?_⟩
          refine rdS_changes T ss1.tree hx fun ca as q1 q2 q3 => ?_
          repeat walk_at "ub1"
          refine ⟨ca, _, rfl, .inl (SqL.of q1), ?_⟩
          repeat walk_at "ub1"
          have el := paired_len q3
          rw [List.length_map]
          refine ite_dec (fun c3 => ?_) (fun c3 => ?_)
          · rw [if_pos (by omega)] at k'
            repeat walk_at "ub1"
            exact k' H1 s1
          · rw [if_neg (by omega)] at k'
            repeat walk_at "ub1"
            exact k' H1 s1
theorem put_len0 {A : Type} (t : List A) (p : Nat) : (Ue03.put t p 0 []).length = t.length := by
  unfold Ue03.put
  rw [List.length_append, List.length_append, List.length_take, List.length_drop, List.length_nil]
  omega
theorem cutOut_len (t : List Nat) (c : Chg) : (cutOut t c).length ≤ t.length := by
  unfold cutOut
  rw [List.length_take, List.length_drop]
  omega
theorem reverting_in {M : Tr} {x : Nd} {p : Nat} {c d : Chg} (h : reverting M x p c = some d) : d.in_ = cutOut (textOf M p) c := by
  unfold reverting at h
  cases e : startBehindAll c.in_.length c.at_ (changesBehind M x.number) with
  | none => rw [e] at h; cases h
  | some s =>
    rw [e] at h
    cases h
    rfl
def sp_Session_revert (_K : PySem.W.Frag) (C : Cl) : Sp := spOp1 oRevert C
abbrev s_Session_revert : Stmt := inClass (topS 47) 21
theorem sc_Session_revert : FnScope ["self", "number", "refusal", "made", "later"] ["self", "number"] (defScope s_Session_revert) := ⟨rfl, rfl, rfl, by decide +kernel, rfl, by decide +kernel, by decide +kernel⟩
theorem b_Session_revert : Bind "revert" "Session.revert" s_Session_revert ["self", "number"] := fun _ _ _ _ _ _ us hl => match us, hl with | [_, _], _ => rfl
theorem ok_Session_revert (T : Txt K mg C) (D : DefM K C.se "revert" "Session.revert" s_Session_revert) (c_Tree_create : CalM P w K mg base 3 C.tr "create" ["self", "changes", "text", "time"] (sp_Tree_create K C)) (c_changed : CalF P w K mg base 2 "changed" ["text", "change"] (sp_changed K C)) (c_Tree_here : CalM P w K mg base 1 C.tr "here" ["self"] (sp_Tree_here K C)) (c_reverting : CalF P w K mg base 3 "reverting" ["tree", "number"] (sp_reverting K C)) (c_Session_why_not_reverted : CalM P w K mg base 2 C.se "why_not_reverted" ["self", "number"] (sp_Session_why_not_reverted K C)) : CalM P w K mg base 4 C.se "revert" ["self", "number"] (sp_Session_revert K C) := by
  refine D.cal b_Session_revert fun f fd F => F.ok sc_Session_revert (fun vs H Q E h => h.1) (fun cdv A outer s H vs Q E hr h => ?_)
  have hu := hu_of hr
  refine ⟨_, (pss_cons (ps_set (i := 2) sc_Session_revert.nd rfl (Or.inl rfl) (pm c_Session_why_not_reverted T.cSe hr (by decide) (pv 0) (pa_cons (pv 1) pa_nil)))
        (pss_cons (ps_if (pt_cmpR op_ne (pv 2) pe_int (nomark _)) (pss_one (ps_ret (pe_lst (pa_cons (pv 2) pa_nil)))) pss_nil)
        (pss_cons (ps_set (i := 3) sc_Session_revert.nd rfl (Or.inl rfl) (pf c_reverting hr (by decide) (by rfl) (pa_cons (pe_fld (pv 0) rfl) (pa_cons (pv 1) pa_nil))))
        (pss_cons (ps_if (pt_cmpR op_isN (pv 3) pe_non (nomark _)) (pss_one (ps_ret (pe_lst (pa_cons (pk T.kOVERLAPS rfl) pa_nil)))) pss_nil)
        (pss_cons (ps_set (i := 4) sc_Session_revert.nd rfl (Or.inl rfl) (pf c_changed hr (by decide) (by rfl) (pa_cons (pe_fld (pm0 c_Tree_here T.cTr hr (by decide) (pe_fld (pv 0) rfl)) rfl) (pa_cons (pv 3) pa_nil))))
        (pss_cons (ps_if (pt_cmpR op_gt (pe_callB call_len_seq (by rfl) T.len PySem.boot_len (pa_cons (pv 4) pa_nil)) (pk T.kMOST_BYTES rfl) (nomark _)) (pss_one (ps_ret (pe_lst (pa_cons (pk T.kLONG_REVERTED rfl) pa_nil)))) pss_nil)
        (pss_one (ps_ret (pe_lst (pa_cons (pm c_Tree_create T.cTr hr (by decide) (pe_fld (pv 0) rfl) (pa_cons (pe_lst (pa_cons (pv 3) pa_nil)) (pa_cons (pv 4) (pa_cons (pe_fld (pv 0) rfl) pa_nil)))) (pa_cons (pe_callB call_len_seq (by rfl) T.len PySem.boot_len (pa_cons (pv 4) pa_nil)) pa_nil))))))))))), ?_⟩
  obtain ⟨_, G, M, n, rfl, ss, ft, k⟩ := h
  have W := ft.good.wf
  obtain ⟨c, hcur⟩ := W.cur
  repeat walk_at "ub1"
  refine mtM ss ?_
  repeat walk_at "ub1"
  refine ⟨rfl, G, M, n, rfl, ss, ft, fun H1 s1 => ?_⟩
  have ss1 := ss.same s1
  repeat walk_at "ub1"
  have no : whyNot M n ≠ 0 → Ret C G H Q (M, [whyNot M n]) := by
    intro z
    unfold whyNot at z ⊢
    unfold oRevert alone at k
    by_cases hg : M.group.isSome = true
    · rw [if_pos hg] at k ⊢
      exact k
    · rw [if_neg hg] at k z ⊢
      cases e : M.tree.find n with
      | none =>
        rw [e] at k
        exact k
      | some x =>
        rw [e] at k z
        have k' : Ret C G H Q (if n = M.tree.root ∨ (wayTo M.tree M.tree.current).contains n = false then (M, [-6]) else match x.changes with
          | [] => (M, [])
          | c :: l => if l.isEmpty = false then (M, [-4]) else match x.parent with
            | none => (M, [])
            | some p => match reverting M.tree x p c with
              | none => (M, [-8])
              | some d =>
                let later := Ue03.changed (textOf M.tree M.tree.current) d
                if 300 < later.length then (M, [-5]) else ({ M with tree := create M.tree [d] later M.clock }, asInts [M.tree.coming, later.length])) := k
        have z' : (if n = M.tree.root ∨ (wayTo M.tree M.tree.current).contains n = false then (-6 : Int) else if 1 < x.changes.length then -4 else 0) ≠ 0 := z
        show Ret C G H Q (M, [if n = M.tree.root ∨ (wayTo M.tree M.tree.current).contains n = false then (-6 : Int) else if 1 < x.changes.length then -4 else 0])
        by_cases h1 : n = M.tree.root ∨ (wayTo M.tree M.tree.current).contains n = false
        · rw [if_pos h1] at k' ⊢
          exact k'
        · rw [if_neg h1] at k' z' ⊢
          by_cases h2 : 1 < x.changes.length
          · rw [if_pos h2]
            cases ec : x.changes with
            | nil => rw [ec] at h2; simp at h2
            | cons c l =>
              rw [ec] at k' h2
              have hl : l.isEmpty = false := by
                cases l with
                | nil => simp at h2
                | cons a l => rfl
              have k2 : Ret C G H Q (if l.isEmpty = false then (M, [-4]) else match x.parent with
                | none => (M, [])
                | some p => match reverting M.tree x p c with
                  | none => (M, [-8])
                  | some d =>
                    let later := Ue03.changed (textOf M.tree M.tree.current) d
                    if 300 < later.length then (M, [-5]) else ({ M with tree := create M.tree [d] later M.clock }, asInts [M.tree.coming, later.length])) := k'
              rw [if_pos hl] at k2
              exact k2
          · rw [if_neg h2] at z'
            exact absurd rfl z'
  refine ite_ndec (fun c1 => ?_) (fun c1 => ?_)
  · have k1 := no c1
    repeat walk_at "ub1"
    exact ⟨one_line, fun p hp => k1.new rfl ss1 (Same.fro s1) hp rfl⟩
  · -- no refusal
    have ⟨hg, x, hx, nr, hw, hlen⟩ : M.group = none ∧ ∃ x, M.tree.find n = some x ∧ n ≠ M.tree.root ∧ n ∈ wayTo M.tree M.tree.current ∧ x.changes.length ≤ 1 := by
      have c1' : whyNot M n = 0 := c1
      unfold whyNot at c1'
      by_cases hg : M.group.isSome = true
      · rw [if_pos hg] at c1'
        exact absurd c1' (by decide)
      · rw [if_neg hg] at c1'
        refine ⟨by simpa using hg, ?_⟩
        cases e : M.tree.find n with
        | none =>
          rw [e] at c1'
          have c2 : (-2 : Int) = 0 := c1'
          exact absurd c2 (by decide)
        | some x =>
          rw [e] at c1'
          have c2 : (if n = M.tree.root ∨ (wayTo M.tree M.tree.current).contains n = false then (-6 : Int) else if 1 < x.changes.length then -4 else 0) = 0 := c1'
          by_cases h1 : n = M.tree.root ∨ (wayTo M.tree M.tree.current).contains n = false
          · rw [if_pos h1] at c2
            exact absurd c2 (by decide)
          · rw [if_neg h1] at c2
            have h1' := not_or.mp h1
            by_cases h2 : 1 < x.changes.length
            · rw [if_pos h2] at c2
              exact absurd c2 (by decide)
            · exact ⟨x, rfl, h1'.1, by simpa using h1'.2, by omega⟩
    obtain ⟨m, ex⟩ := mem_of_find hx
    obtain ⟨p, y, hp, lp, hy, _, hne⟩ := W.up x m (by rw [ex]; exact nr)
    obtain ⟨ch, hch⟩ : ∃ ch, x.changes = [ch] := by
      cases e : x.changes with
      | nil => exact absurd e hne
      | cons a l =>
        rw [e] at hlen
        have : l = [] := by simpa using hlen
        exact ⟨a, by rw [this]⟩
    have k' : Ret C G H Q (match reverting M.tree x p ch with
        | none => (M, [-8])
        | some d => if 300 < (Ue03.changed (textOf M.tree M.tree.current) d).length then (M, [-5]) else ({ M with tree := create M.tree [d] (Ue03.changed (textOf M.tree M.tree.current) d) M.clock }, asInts [M.tree.coming, (Ue03.changed (textOf M.tree M.tree.current) d).length])) := by
      unfold oRevert at k
      rw [alone_none hg, hx] at k
      have kk : Ret C G H Q (if n = M.tree.root ∨ (wayTo M.tree M.tree.current).contains n = false then (M, [-6]) else match x.changes with
          | [] => (M, [])
          | c :: l => if l.isEmpty = false then (M, [-4]) else match x.parent with
            | none => (M, [])
            | some p => match reverting M.tree x p c with
              | none => (M, [-8])
              | some d => if 300 < (Ue03.changed (textOf M.tree M.tree.current) d).length then (M, [-5]) else ({ M with tree := create M.tree [d] (Ue03.changed (textOf M.tree M.tree.current) d) M.clock }, asInts [M.tree.coming, (Ue03.changed (textOf M.tree M.tree.current) d).length])) := k
      rw [if_neg (not_or.mpr ⟨nr, by simpa using hw⟩), hch, hp] at kk
      exact kk
    have htl : (textOf M.tree M.tree.current).length ≤ 300 := by
      rw [textOf_of hcur]
      exact W.len c (mem_of_find hcur).1
    have hyl : (textOf M.tree p).length ≤ 300 := by
      rw [textOf_of hy]
      exact W.len y (mem_of_find hy).1
    repeat walk_at "ub1"
    refine rdM_tree T ss1 ?_
    repeat walk_at "ub1"
    refine ⟨rfl, G, M.tree, n, p, x, y, ch, [], rfl, ss1.tree, W, ft.sm, ft.chm, hx, hp, hy, hch, hw, fun er H2 s2 => ?_, fun d er H2 a s2 cd => ?_⟩
    · rw [er] at k'
      repeat walk_at "ub1"
      refine ⟨rfl, _, rfl, ?_⟩
      refine iteT ?_
      repeat walk_at "ub1"
      exact ⟨one_line, fun q hq => k'.new rfl (ss1.same s2) (Same.fro (s1.trans s2)) hq rfl⟩
    · rw [er] at k'
      have kd : Ret C G H Q (if 300 < (Ue03.changed (textOf M.tree M.tree.current) d).length then (M, [-5]) else ({ M with tree := create M.tree [d] (Ue03.changed (textOf M.tree M.tree.current) d) M.clock }, asInts [M.tree.coming, (Ue03.changed (textOf M.tree M.tree.current) d).length])) := k'
      have hdl : d.in_.length ≤ 300 := by
        rw [reverting_in er]
        exact Nat.le_trans (cutOut_len _ _) hyl
      have ss2 := ss1.same s2
      have s12 := s1.trans s2
      repeat walk_at "ub1"
      refine ⟨rfl, _, rfl, ?_⟩
      refine iteF ?_
      repeat walk_at "ub1"
      refine rdM_tree T ss2 ?_
      refine mtT ss2.tree ?_
      repeat walk_at "ub1"
      refine ⟨rfl, G, M.tree, c, rfl, ss2.tree, hcur, ?_⟩
      refine rdS_text T ss2.tree hcur fun ta ht => ?_
      repeat walk_at "ub1"
      refine ⟨rfl, G, ta, a, c.text, d, rfl, ht.1, cd, by rw [← textOf_of hcur]; omega, fun H3 p3 s3 n3 e3 => ?_⟩
      rw [← textOf_of hcur] at e3
      have ss3 := ss2.same s3
      have cd3 := cd.frm (Frm.of s3)
      have ht3 : TextAt G H3 p3 (Ue03.changed (textOf M.tree M.tree.current) d) := ⟨e3, ss2.tree.lok p3 n3⟩
      have s13 := s12.trans s3
      generalize Ue03.changed (textOf M.tree M.tree.current) d = lt at *
      repeat walk_at "ub1"
      refine ⟨p3, _, rfl, .inl (SqL.of e3), ?_⟩
      repeat walk_at "ub1"
      rw [vInts_len]
      refine ite_dec (fun c3 => ?_) (fun c3 => ?_)
      · rw [if_pos (by omega)] at kd
        repeat walk_at "ub1"
        exact ⟨one_line, fun q hq => kd.new rfl ss3 (Same.fro s13) hq rfl⟩
      · rw [if_neg (by omega)] at kd
        repeat walk_at "ub1"
        refine rdM_tree T ss3 ?_
        refine mtT ss3.tree ?_
        repeat walk_at "ub1"
        refine ⟨one_line, fun p4 n4 => ?_⟩
        have s4 := Same.new (o := .lst [.ref a]) n4
        have ss4 := ss3.same s4
        repeat walk_at "ub1"
        refine rdM_clock T ss4 ?_
        repeat walk_at "ub1"
        refine ⟨rfl, G, M.tree, p4, p3, [a], [d], lt, M.clock, rfl, ss4.tree, W, ft.sm, upd_same, ss3.tree.lok p4 n4, .cons (cd3.frm (Frm.of s4)) .nil, ht3.frm (Frm.of s4), fun H5 G5 et es tr5 f5 => ?_⟩
        have e5 : H5 p3 = some (.lst (vInts lt)) := (f5 _ _ (s4 _ _ e3) (by rw [ht3.2]; rfl)).1
        have ss5 : SessAt C G5 H5 { M with tree := create M.tree [d] lt M.clock } := by
          obtain ⟨dx, g, d', h1, h2, h3⟩ := ss4.obj
          obtain ⟨q1, q2⟩ := f5 _ _ h1 (by rw [h2]; rfl)
          refine ⟨⟨dx, g, d', ?_, ?_, fun cs t e => ?_⟩, tr5⟩
          · rw [es, et]
            exact q1
          · rw [es]
            exact q2.trans h2
          · have e' : M.group = some (cs, t) := e
            rw [hg] at e'
            cases e'
        repeat walk_at "ub1"
        refine ⟨p3, _, rfl, .inl (SqL.of e5), ?_⟩
        repeat walk_at "ub1"
        refine ⟨two_line, fun p6 n6 => kd.new es ss5 ((Same.fro (s13.trans s4)).trans f5.fro) n6 ?_⟩
        rw [vInts_len]
        rfl
end
/-! ### calls: cut and answered -/
section
variable {P : Program} {w : World} {K : PySem.W.Frag} {mg : Str → Option Value} {base : Heap} {C : Cl}
inductive IsCall : Nat → List Nat → List Nat → Ue03.Call → Prop
  | c0 (row : List Nat) : IsCall 0 [] row (.begins row)
  | c1 (t : Nat) : IsCall 1 [t] [] (.wait t)
  | c2 (p o : Nat) (row : List Nat) : IsCall 2 [p, o] row (.change ⟨p, o, row⟩)
  | c3 : IsCall 3 [] [] .open_
  | c4 : IsCall 4 [] [] .close
  | c5 : IsCall 5 [] [] .undo
  | c6 : IsCall 6 [] [] .redo
  | c7 (n : Nat) : IsCall 7 [n] [] (.goto n)
  | c8 (n : Nat) : IsCall 8 [n] [] (.earlier n)
  | c9 (n : Nat) : IsCall 9 [n] [] (.later n)
  | c10 (n : Nat) : IsCall 10 [n] [] (.ago n)
  | c11 : IsCall 11 [] [] .shows
  | c12 (n : Nat) : IsCall 12 [n] [] (.state n)
  | c13 : IsCall 13 [] [] .ends
  | c14 (a b : Nat) : IsCall 14 [a, b] [] (.way a b)
  | c15 : IsCall 15 [] [] .origin
  | c16 (n : Nat) : IsCall 16 [n] [] (.takeback n)
  | c17 (n j : Nat) (h : j = 0 ∨ j = 1) : IsCall 17 [n, j] [] (.keep n (decide (j = 1)))
  | c18 (n : Nat) : IsCall 18 [n] [] (.forget n)
  | c19 (n : Nat) : IsCall 19 [n] [] (.text n)
local macro_rules | `(tactic| walk_at "ub2") => `(tactic| first | walk_at "ub1" | refine iteF ?_ | refine iteT ?_)
def sp_moving (_K : PySem.W.Frag) (C : Cl) : Sp := fun vs H Q _ => vs.length = 3 ∧ ∃ (G : Gh) (M : Se) (num : Nat) (nums : List Nat) (pn : Addr) (uc : Ue03.Call), vs = [.ref G.s, iV num, .ref pn] ∧ SessAt C G H M ∧ Fit M ∧ H pn = some (.lst (vInts nums)) ∧ IsCall num nums [] uc ∧ 3 ≤ num ∧ num ≤ 10 ∧ Ret C G H Q (stepM M uc)
def sp_telling (_K : PySem.W.Frag) (C : Cl) : Sp := fun vs H Q _ => vs.length = 3 ∧ ∃ (G : Gh) (M : Se) (num : Nat) (nums : List Nat) (pn : Addr) (uc : Ue03.Call), vs = [.ref G.s, iV num, .ref pn] ∧ SessAt C G H M ∧ Fit M ∧ H pn = some (.lst (vInts nums)) ∧ IsCall num nums [] uc ∧ (11 ≤ num ∧ num ≤ 15 ∨ num = 19) ∧ Ret C G H Q (stepM M uc)
abbrev s_moving : Stmt := topS 49
theorem sc_moving : FnScope ["session", "call", "numbers"] ["session", "call", "numbers"] (defScope s_moving) := ⟨rfl, rfl, rfl, by decide +kernel, rfl, by decide +kernel, by decide +kernel⟩
theorem b_moving : Bind "moving" "moving" s_moving ["session", "call", "numbers"] := fun _ _ _ _ _ _ us hl => match us, hl with | [_, _, _], _ => rfl
theorem ok_moving (T : Txt K mg C) (D : DefF K mg "moving" s_moving) (c_Session_ago : CalM P w K mg base 5 C.se "ago" ["self", "ticks"] (sp_Session_ago K C)) (c_Session_later : CalM P w K mg base 5 C.se "later" ["self", "n"] (sp_Session_later K C)) (c_Session_earlier : CalM P w K mg base 5 C.se "earlier" ["self", "n"] (sp_Session_earlier K C)) (c_Session_go_to : CalM P w K mg base 4 C.se "go_to" ["self", "number"] (sp_Session_go_to K C)) (c_Session_redo : CalM P w K mg base 3 C.se "redo" ["self"] (sp_Session_redo K C)) (c_Session_undo : CalM P w K mg base 3 C.se "undo" ["self"] (sp_Session_undo K C)) (c_Session_end_group : CalM P w K mg base 4 C.se "end_group" ["self"] (sp_Session_end_group K C)) (c_Session_begin_group : CalM P w K mg base 2 C.se "begin_group" ["self"] (sp_Session_begin_group K C)) : CalF P w K mg base 6 "moving" ["session", "call", "numbers"] (sp_moving K C) := by
  refine D.cal b_moving fun f fd F => F.ok sc_moving (fun vs H Q E h => h.1) (fun cdv A outer s H vs Q E hr h => ?_)
  have hu := hu_of hr
  refine ⟨_, (pss_cons (ps_if (pt_cmpR op_eq (pv 1) pe_int (nomark _)) (pss_one (ps_ret (pm0 c_Session_begin_group T.cSe hr (by decide) (pv 0)))) pss_nil)
        (pss_cons (ps_if (pt_cmpR op_eq (pv 1) pe_int (nomark _)) (pss_one (ps_ret (pm0 c_Session_end_group T.cSe hr (by decide) (pv 0)))) pss_nil)
        (pss_cons (ps_if (pt_cmpR op_eq (pv 1) pe_int (nomark _)) (pss_one (ps_ret (pm0 c_Session_undo T.cSe hr (by decide) (pv 0)))) pss_nil)
        (pss_cons (ps_if (pt_cmpR op_eq (pv 1) pe_int (nomark _)) (pss_one (ps_ret (pm0 c_Session_redo T.cSe hr (by decide) (pv 0)))) pss_nil)
        (pss_cons (ps_if (pt_cmpR op_eq (pv 1) pe_int (nomark _)) (pss_one (ps_ret (pm c_Session_go_to T.cSe hr (by decide) (pv 0) (pa_cons (pe_ix ix_list (pv 2) pe_int (fun _ _ => rfl)) pa_nil)))) pss_nil)
        (pss_cons (ps_if (pt_cmpR op_eq (pv 1) pe_int (nomark _)) (pss_one (ps_ret (pm c_Session_earlier T.cSe hr (by decide) (pv 0) (pa_cons (pe_ix ix_list (pv 2) pe_int (fun _ _ => rfl)) pa_nil)))) pss_nil)
        (pss_cons (ps_if (pt_cmpR op_eq (pv 1) pe_int (nomark _)) (pss_one (ps_ret (pm c_Session_later T.cSe hr (by decide) (pv 0) (pa_cons (pe_ix ix_list (pv 2) pe_int (fun _ _ => rfl)) pa_nil)))) pss_nil)
        (pss_one (ps_ret (pm c_Session_ago T.cSe hr (by decide) (pv 0) (pa_cons (pe_ix ix_list (pv 2) pe_int (fun _ _ => rfl)) pa_nil))))))))))), ?_⟩
  obtain ⟨_, G, M, num, nums, pn, uc, rfl, ss, ft, hn, hc, h3, h10, k⟩ := h
  cases hc with
  | c3 =>
    repeat walk_at "ub2"
    refine mtM ss ?_
    repeat walk_at "ub1"
    exact ⟨rfl, G, M, rfl, ss, ft, k⟩
  | c4 =>
    repeat walk_at "ub2"
    refine mtM ss ?_
    repeat walk_at "ub1"
    exact ⟨rfl, G, M, rfl, ss, ft, k⟩
  | c5 =>
    repeat walk_at "ub2"
    refine mtM ss ?_
    repeat walk_at "ub1"
    exact ⟨rfl, G, M, rfl, ss, ft, k⟩
  | c6 =>
    repeat walk_at "ub2"
    refine mtM ss ?_
    repeat walk_at "ub1"
    exact ⟨rfl, G, M, rfl, ss, ft, k⟩
  | c7 n =>
    repeat walk_at "ub2"
    refine mtM ss ?_
    repeat walk_at "ub1"
    refine ⟨pn, _, _, iV n, rfl, rfl, SqL.of hn, rfl, ?_⟩
    repeat walk_at "ub1"
    exact ⟨rfl, G, M, n, rfl, ss, ft, k⟩
  | c8 n =>
    repeat walk_at "ub2"
    refine mtM ss ?_
    repeat walk_at "ub1"
    refine ⟨pn, _, _, iV n, rfl, rfl, SqL.of hn, rfl, ?_⟩
    repeat walk_at "ub1"
    exact ⟨rfl, G, M, n, rfl, ss, ft, k⟩
  | c9 n =>
    repeat walk_at "ub2"
    refine mtM ss ?_
    repeat walk_at "ub1"
    refine ⟨pn, _, _, iV n, rfl, rfl, SqL.of hn, rfl, ?_⟩
    repeat walk_at "ub1"
    exact ⟨rfl, G, M, n, rfl, ss, ft, k⟩
  | c10 n =>
    repeat walk_at "ub2"
    refine mtM ss ?_
    repeat walk_at "ub1"
    refine ⟨pn, _, _, iV n, rfl, rfl, SqL.of hn, rfl, ?_⟩
    repeat walk_at "ub1"
    exact ⟨rfl, G, M, n, rfl, ss, ft, k⟩
  | _ => omega
abbrev s_telling : Stmt := topS 50
theorem sc_telling : FnScope ["session", "call", "numbers"] ["session", "call", "numbers"] (defScope s_telling) := ⟨rfl, rfl, rfl, by decide +kernel, rfl, by decide +kernel, by decide +kernel⟩
theorem b_telling : Bind "telling" "telling" s_telling ["session", "call", "numbers"] := fun _ _ _ _ _ _ us hl => match us, hl with | [_, _, _], _ => rfl
theorem ok_telling (T : Txt K mg C) (D : DefF K mg "telling" s_telling) (c_Session_text_of : CalM P w K mg base 2 C.se "text_of" ["self", "number"] (sp_Session_text_of K C)) (c_Session_origins : CalM P w K mg base 4 C.se "origins" ["self"] (sp_Session_origins K C)) (c_Session_path : CalM P w K mg base 3 C.se "path" ["self", "start", "goal"] (sp_Session_path K C)) (c_Session_leaves : CalM P w K mg base 2 C.se "leaves" ["self"] (sp_Session_leaves K C)) (c_Session_state_info : CalM P w K mg base 2 C.se "state_info" ["self", "number"] (sp_Session_state_info K C)) (c_Session_get_text : CalM P w K mg base 3 C.se "get_text" ["self"] (sp_Session_get_text K C)) : CalF P w K mg base 5 "telling" ["session", "call", "numbers"] (sp_telling K C) := by
  refine D.cal b_telling fun f fd F => F.ok sc_telling (fun vs H Q E h => h.1) (fun cdv A outer s H vs Q E hr h => ?_)
  have hu := hu_of hr
  refine ⟨_, (pss_cons (ps_if (pt_cmpR op_eq (pv 1) pe_int (nomark _)) (pss_one (ps_ret (pm0 c_Session_get_text T.cSe hr (by decide) (pv 0)))) pss_nil)
        (pss_cons (ps_if (pt_cmpR op_eq (pv 1) pe_int (nomark _)) (pss_one (ps_ret (pm c_Session_state_info T.cSe hr (by decide) (pv 0) (pa_cons (pe_ix ix_list (pv 2) pe_int (fun _ _ => rfl)) pa_nil)))) pss_nil)
        (pss_cons (ps_if (pt_cmpR op_eq (pv 1) pe_int (nomark _)) (pss_one (ps_ret (pm0 c_Session_leaves T.cSe hr (by decide) (pv 0)))) pss_nil)
        (pss_cons (ps_if (pt_cmpR op_eq (pv 1) pe_int (nomark _)) (pss_one (ps_ret (pm c_Session_path T.cSe hr (by decide) (pv 0) (pa_cons (pe_ix ix_list (pv 2) pe_int (fun _ _ => rfl)) (pa_cons (pe_ix ix_list (pv 2) pe_int (fun _ _ => rfl)) pa_nil))))) pss_nil)
        (pss_cons (ps_if (pt_cmpR op_eq (pv 1) pe_int (nomark _)) (pss_one (ps_ret (pm0 c_Session_origins T.cSe hr (by decide) (pv 0)))) pss_nil)
        (pss_one (ps_ret (pm c_Session_text_of T.cSe hr (by decide) (pv 0) (pa_cons (pe_ix ix_list (pv 2) pe_int (fun _ _ => rfl)) pa_nil))))))))), ?_⟩
  obtain ⟨_, G, M, num, nums, pn, uc, rfl, ss, ft, hn, hc, h3, k⟩ := h
  cases hc with
  | c11 =>
    repeat walk_at "ub2"
    refine mtM ss ?_
    repeat walk_at "ub1"
    exact ⟨rfl, G, M, rfl, ss, ft, k⟩
  | c12 n =>
    repeat walk_at "ub2"
    refine mtM ss ?_
    repeat walk_at "ub1"
    refine ⟨pn, _, _, iV n, rfl, rfl, SqL.of hn, rfl, ?_⟩
    repeat walk_at "ub1"
    exact ⟨rfl, G, M, n, rfl, ss, ft, k⟩
  | c13 =>
    repeat walk_at "ub2"
    refine mtM ss ?_
    repeat walk_at "ub1"
    exact ⟨rfl, G, M, rfl, ss, ft, k⟩
  | c14 a b =>
    repeat walk_at "ub2"
    refine mtM ss ?_
    repeat walk_at "ub1"
    refine ⟨pn, _, _, iV a, rfl, rfl, SqL.of hn, rfl, ?_⟩
    repeat walk_at "ub1"
    refine ⟨pn, _, _, iV b, rfl, rfl, SqL.of hn, rfl, ?_⟩
    repeat walk_at "ub1"
    exact ⟨rfl, G, M, a, b, rfl, ss, ft, k⟩
  | c15 =>
    repeat walk_at "ub2"
    refine mtM ss ?_
    repeat walk_at "ub1"
    exact ⟨rfl, G, M, rfl, ss, ft, k⟩
  | c19 n =>
    repeat walk_at "ub2"
    refine mtM ss ?_
    repeat walk_at "ub1"
    refine ⟨pn, _, _, iV n, rfl, rfl, SqL.of hn, rfl, ?_⟩
    repeat walk_at "ub1"
    exact ⟨rfl, G, M, n, rfl, ss, ft, k⟩
  | _ => omega
def sp_answer (_K : PySem.W.Frag) (C : Cl) : Sp := fun vs H Q _ => vs.length = 4 ∧ ∃ (G : Gh) (M : Se) (num : Nat) (nums row : List Nat) (pn pr : Addr) (uc : Ue03.Call), vs = [.ref G.s, iV num, .ref pn, .ref pr] ∧ SessAt C G H M ∧ Fit M ∧ H pn = some (.lst (vInts nums)) ∧ H pr = some (.lst (vInts row)) ∧ row.length ≤ 350 ∧ IsCall num nums row uc ∧ Ret C G H Q (stepM M uc)
abbrev s_answer : Stmt := topS 51
theorem sc_answer : FnScope ["session", "call", "numbers", "row"] ["session", "call", "numbers", "row"] (defScope s_answer) := ⟨rfl, rfl, rfl, by decide +kernel, rfl, by decide +kernel, by decide +kernel⟩
theorem b_answer : Bind "answer" "answer" s_answer ["session", "call", "numbers", "row"] := fun _ _ _ _ _ _ us hl => match us, hl with | [_, _, _, _], _ => rfl
theorem ok_answer (T : Txt K mg C) (D : DefF K mg "answer" s_answer) (c_telling : CalF P w K mg base 5 "telling" ["session", "call", "numbers"] (sp_telling K C)) (c_Session_forgotten : CalM P w K mg base 6 C.se "forgotten" ["self", "limit"] (sp_Session_forgotten K C)) (c_Session_keep : CalM P w K mg base 2 C.se "keep" ["self", "number", "kept"] (sp_Session_keep K C)) (c_Session_revert : CalM P w K mg base 4 C.se "revert" ["self", "number"] (sp_Session_revert K C)) (c_moving : CalF P w K mg base 6 "moving" ["session", "call", "numbers"] (sp_moving K C)) (c_Session_change : CalM P w K mg base 4 C.se "change" ["self", "position", "removed", "row"] (sp_Session_change K C)) (c_Session_wait : CalM P w K mg base 1 C.se "wait" ["self", "ticks"] (sp_Session_wait K C)) (c_Session_start : CalM P w K mg base 5 C.se "start" ["self", "row"] (sp_Session_start K C)) : CalF P w K mg base 7 "answer" ["session", "call", "numbers", "row"] (sp_answer K C) := by
  refine D.cal b_answer fun f fd F => F.ok sc_answer (fun vs H Q E h => h.1) (fun cdv A outer s H vs Q E hr h => ?_)
  have hu := hu_of hr
  refine ⟨_, (pss_cons (ps_if (pt_cmpR op_eq (pv 1) pe_int (nomark _)) (pss_one (ps_ret (pm c_Session_start T.cSe hr (by decide) (pv 0) (pa_cons (pv 3) pa_nil)))) pss_nil)
        (pss_cons (ps_if (pt_cmpR op_eq (pv 1) pe_int (nomark _)) (pss_one (ps_ret (pm c_Session_wait T.cSe hr (by decide) (pv 0) (pa_cons (pe_ix ix_list (pv 2) pe_int (fun _ _ => rfl)) pa_nil)))) pss_nil)
        (pss_cons (ps_if (pt_cmpR op_eq (pv 1) pe_int (nomark _)) (pss_one (ps_ret (pm c_Session_change T.cSe hr (by decide) (pv 0) (pa_cons (pe_ix ix_list (pv 2) pe_int (fun _ _ => rfl)) (pa_cons (pe_ix ix_list (pv 2) pe_int (fun _ _ => rfl)) (pa_cons (pv 3) pa_nil)))))) pss_nil)
        (pss_cons (ps_if (pt_cmpR op_le (pv 1) pe_int (nomark _)) (pss_one (ps_ret (pf c_moving hr (by decide) (by rfl) (pa_cons (pv 0) (pa_cons (pv 1) (pa_cons (pv 2) pa_nil)))))) pss_nil)
        (pss_cons (ps_if (pt_cmpR op_eq (pv 1) pe_int (nomark _)) (pss_one (ps_ret (pm c_Session_revert T.cSe hr (by decide) (pv 0) (pa_cons (pe_ix ix_list (pv 2) pe_int (fun _ _ => rfl)) pa_nil)))) pss_nil)
        (pss_cons (ps_if (pt_cmpR op_eq (pv 1) pe_int (nomark _)) (pss_one (ps_ret (pm c_Session_keep T.cSe hr (by decide) (pv 0) (pa_cons (pe_ix ix_list (pv 2) pe_int (fun _ _ => rfl)) (pa_cons (pe_ix ix_list (pv 2) pe_int (fun _ _ => rfl)) pa_nil))))) pss_nil)
        (pss_cons (ps_if (pt_cmpR op_eq (pv 1) pe_int (nomark _)) (pss_one (ps_ret (pm c_Session_forgotten T.cSe hr (by decide) (pv 0) (pa_cons (pe_ix ix_list (pv 2) pe_int (fun _ _ => rfl)) pa_nil)))) pss_nil)
        (pss_one (ps_ret (pf c_telling hr (by decide) (by rfl) (pa_cons (pv 0) (pa_cons (pv 1) (pa_cons (pv 2) pa_nil))))))))))))), ?_⟩
  obtain ⟨_, G, M, num, nums, row, pn, pr, uc, rfl, ss, ft, hn, hr0, hl, hc, k⟩ := h
  cases hc with
  | c0 =>
    repeat walk_at "ub2"
    refine mtM ss ?_
    repeat walk_at "ub1"
    exact ⟨rfl, G, M, pr, row, rfl, ss, hr0, hl, k⟩
  | c1 t =>
    repeat walk_at "ub2"
    refine mtM ss ?_
    repeat walk_at "ub1"
    refine ⟨pn, _, _, iV t, rfl, rfl, SqL.of hn, rfl, ?_⟩
    repeat walk_at "ub1"
    exact ⟨rfl, G, M, t, rfl, ss, ft, k⟩
  | c2 p o =>
    repeat walk_at "ub2"
    refine mtM ss ?_
    repeat walk_at "ub1"
    refine ⟨pn, _, _, iV p, rfl, rfl, SqL.of hn, rfl, ?_⟩
    repeat walk_at "ub1"
    refine ⟨pn, _, _, iV o, rfl, rfl, SqL.of hn, rfl, ?_⟩
    repeat walk_at "ub1"
    exact ⟨rfl, G, M, pr, p, o, row, rfl, ss, ft, hr0, hl, k⟩
  | c3 =>
    repeat walk_at "ub2"
    exact ⟨rfl, G, M, 3, _, pn, _, rfl, ss, ft, hn, .c3, by decide, by decide, k⟩
  | c4 =>
    repeat walk_at "ub2"
    exact ⟨rfl, G, M, 4, _, pn, _, rfl, ss, ft, hn, .c4, by decide, by decide, k⟩
  | c5 =>
    repeat walk_at "ub2"
    exact ⟨rfl, G, M, 5, _, pn, _, rfl, ss, ft, hn, .c5, by decide, by decide, k⟩
  | c6 =>
    repeat walk_at "ub2"
    exact ⟨rfl, G, M, 6, _, pn, _, rfl, ss, ft, hn, .c6, by decide, by decide, k⟩
  | c7 n =>
    repeat walk_at "ub2"
    exact ⟨rfl, G, M, 7, _, pn, _, rfl, ss, ft, hn, .c7 n, by decide, by decide, k⟩
  | c8 n =>
    repeat walk_at "ub2"
    exact ⟨rfl, G, M, 8, _, pn, _, rfl, ss, ft, hn, .c8 n, by decide, by decide, k⟩
  | c9 n =>
    repeat walk_at "ub2"
    exact ⟨rfl, G, M, 9, _, pn, _, rfl, ss, ft, hn, .c9 n, by decide, by decide, k⟩
  | c10 n =>
    repeat walk_at "ub2"
    exact ⟨rfl, G, M, 10, _, pn, _, rfl, ss, ft, hn, .c10 n, by decide, by decide, k⟩
  | c11 =>
    repeat walk_at "ub2"
    exact ⟨rfl, G, M, 11, _, pn, _, rfl, ss, ft, hn, .c11, by decide, k⟩
  | c12 n =>
    repeat walk_at "ub2"
    exact ⟨rfl, G, M, 12, _, pn, _, rfl, ss, ft, hn, .c12 n, by decide, k⟩
  | c13 =>
    repeat walk_at "ub2"
    exact ⟨rfl, G, M, 13, _, pn, _, rfl, ss, ft, hn, .c13, by decide, k⟩
  | c14 a b =>
    repeat walk_at "ub2"
    exact ⟨rfl, G, M, 14, _, pn, _, rfl, ss, ft, hn, .c14 a b, by decide, k⟩
  | c15 =>
    repeat walk_at "ub2"
    exact ⟨rfl, G, M, 15, _, pn, _, rfl, ss, ft, hn, .c15, by decide, k⟩
  | c16 n =>
    repeat walk_at "ub2"
    refine mtM ss ?_
    repeat walk_at "ub1"
    refine ⟨pn, _, _, iV n, rfl, rfl, SqL.of hn, rfl, ?_⟩
    repeat walk_at "ub1"
    exact ⟨rfl, G, M, n, rfl, ss, ft, k⟩
  | c17 n j hj =>
    repeat walk_at "ub2"
    refine mtM ss ?_
    repeat walk_at "ub1"
    refine ⟨pn, _, _, iV n, rfl, rfl, SqL.of hn, rfl, ?_⟩
    repeat walk_at "ub1"
    refine ⟨pn, _, _, iV j, rfl, rfl, SqL.of hn, rfl, ?_⟩
    repeat walk_at "ub1"
    exact ⟨rfl, G, M, n, j, rfl, ss, ft, k⟩
  | c18 n =>
    repeat walk_at "ub2"
    refine mtM ss ?_
    repeat walk_at "ub1"
    refine ⟨pn, _, _, iV n, rfl, rfl, SqL.of hn, rfl, ?_⟩
    repeat walk_at "ub1"
    exact ⟨rfl, G, M, n, rfl, ss, ft, k⟩
  | c19 n =>
    repeat walk_at "ub2"
    exact ⟨rfl, G, M, 19, _, pn, _, rfl, ss, ft, hn, .c19 n, by decide, k⟩
end
/-! ### the request's list, cut into calls; all answers -/
section
variable {P : Program} {w : World} {K : PySem.W.Frag} {mg : Str → Option Value} {base : Heap} {C : Cl}
def arity : List Nat := [0, 1, 2, 0, 0, 0, 0, 1, 1, 1, 1, 0, 1, 0, 2, 0, 1, 2, 1, 1]
structure Raw where
  num : Nat
  nums : List Nat
  row : List Nat
/-- the call at a place, and the place behind it -/
inductive CutAt (l : List Nat) (place : Nat) : Raw → Nat → Prop
  | plain (num ar : Nat) (h : l[place]? = some num) (ha : arity[num]? = some ar) (hr : num ≠ 0 ∧ num ≠ 2) : CutAt l place ⟨num, (l.drop (place + 1)).take ar, []⟩ (place + 1 + ar)
  | row (num ar n : Nat) (h : l[place]? = some num) (ha : arity[num]? = some ar) (hr : num = 0 ∨ num = 2) (hn : l[place + 1 + ar]? = some n) :
    CutAt l place ⟨num, (l.drop (place + 1)).take ar, (l.drop (place + 1 + ar + 1)).take n⟩ (place + 1 + ar + 1 + n)
inductive Cut (l : List Nat) : Nat → List Raw → Prop
  | nil (p : Nat) (h : l.length ≤ p) : Cut l p []
  | cons (p q : Nat) (r : Raw) (cs : List Raw) (h : CutAt l p r q) (t : Cut l q cs) : Cut l p (r :: cs)
theorem CutAt.lt {l : List Nat} {p q : Nat} {r : Raw} (h : CutAt l p r q) : p < l.length ∧ p < q := by
  cases h with
  | plain num ar h ha hr => exact ⟨(List.getElem?_eq_some_iff.mp h).1, by omega⟩
  | row num ar n h ha hr hn => exact ⟨(List.getElem?_eq_some_iff.mp h).1, by omega⟩
theorem vInts_get {l : List Nat} {i n : Nat} (h : l[i]? = some n) : (vInts l)[i]? = some (iV n) := by
  unfold vInts
  rw [List.getElem?_map, h]
  rfl
theorem vInts_slice (l : List Nat) (i j : Nat) : cutV (vInts l) (some (i : Int)) (some (j : Int)) = vInts ((l.drop i).take (j - i)) := by
  rw [cutV_both]
  unfold vInts
  rw [List.map_take, List.map_drop]
def sp_call_at (K : PySem.W.Frag) (C : Cl) : Sp := fun vs H Q _ => vs.length = 2 ∧ ∃ (a : Addr) (l : List Nat) (place q : Nat) (r : Raw), vs = [.ref a, iV place] ∧ SqL K H a (vInts l) ∧ CutAt l place r q ∧
  ∀ (H' : Hp) (t pn pr : Addr), Same H H' → H pn = none → H pr = none → H' t = some (.tup [iV r.num, .ref pn, .ref pr, iV q]) → H' pn = some (.lst (vInts r.nums)) → H' pr = some (.lst (vInts r.row)) → Q (.ref t) H'
theorem not_in02 {n : Nat} : inV (iV n) (vInts [0, 2]) = (n == 0 || n == 2) := by
  rw [inV_nat]
  rw [Bool.eq_iff_iff]
  simp
abbrev s_call_at : Stmt := topS 3
theorem sc_call_at : FnScope ["calls", "place", "number", "behind", "numbers", "end"] ["calls", "place"] (defScope s_call_at) := ⟨rfl, rfl, rfl, by decide +kernel, rfl, by decide +kernel, by decide +kernel⟩
theorem b_call_at : Bind "call_at" "call_at" s_call_at ["calls", "place"] := fun _ _ _ _ _ _ us hl => match us, hl with | [_, _], _ => rfl
theorem ok_call_at (T : Txt K mg C) (D : DefF K mg "call_at" s_call_at) : CalF P w K mg base 1 "call_at" ["calls", "place"] (sp_call_at K C) := by
  refine D.cal b_call_at fun f fd F => F.ok sc_call_at (fun vs H Q E h => h.1) (fun cdv A outer s H vs Q E hr h => ?_)
  have hu := hu_of hr
  refine ⟨_, (pss_cons (ps_set (i := 2) sc_call_at.nd rfl (Or.inl rfl) (pe_ix ix_list (pv 0) (pv 1) (fun _ _ => rfl)))
        (pss_cons (ps_set (i := 3) sc_call_at.nd rfl (Or.inl rfl) (pe_op op_add (pe_op op_add (pv 1) pe_int) (pe_ix ix_tup (pkt T.kNUMBERS rfl) (pv 2) (fun _ _ => rfl))))
        (pss_cons (ps_set (i := 4) sc_call_at.nd rfl (Or.inl rfl) (pe_slice sl_list (pv 0) (po_some (pe_op op_add (pv 1) pe_int)) (po_some (pv 3))))
        (pss_cons (ps_if (pt_cmpR op_notIn_seq (pv 2) (pkt T.kWITH_ROW rfl) (by rfl)) (pss_one (ps_ret (pe_tup (pa_cons (pv 2) (pa_cons (pv 4) (pa_cons (pe_lst pa_nil) (pa_cons (pv 3) pa_nil))))))) pss_nil)
        (pss_cons (ps_set (i := 5) sc_call_at.nd rfl (Or.inl rfl) (pe_op op_add (pe_op op_add (pv 3) pe_int) (pe_ix ix_list (pv 0) (pv 3) (fun _ _ => rfl))))
        (pss_one (ps_ret (pe_tup (pa_cons (pv 2) (pa_cons (pv 4) (pa_cons (pe_slice sl_list (pv 0) (po_some (pe_op op_add (pv 3) pe_int)) (po_some (pv 5))) (pa_cons (pv 5) pa_nil)))))))))))), ?_⟩
  obtain ⟨_, a, l, place, q, r, rfl, ha, hc, k⟩ := h
  have ⟨num, ar, hnum, har, e1, e2⟩ : ∃ num ar, l[place]? = some num ∧ arity[num]? = some ar ∧ r.num = num ∧ r.nums = (l.drop (place + 1)).take ar := by
    cases hc with
    | plain num ar h ha hr => exact ⟨num, ar, h, ha, rfl, rfl⟩
    | row num ar n h ha hr hn => exact ⟨num, ar, h, ha, rfl, rfl⟩
  repeat walk_at "ub1"
  refine ⟨a, _, _, iV num, rfl, rfl, ha, at_of rfl (vInts_get hnum), ?_⟩
  repeat walk_at "ub1"
  refine (show tGT _ _ _ _ _ from fun an hN => ?_)
  repeat walk_at "ub1"
  refine ⟨an, _, _, iV ar, rfl, rfl, hN _, at_of rfl (vInts_get har), ?_⟩
  repeat walk_at "ub1"
  refine ⟨a, _, rfl, ha, fun p1 n1 => ?_⟩
  have c1 : (place : Int) + 1 = ((place + 1 : Nat) : Int) := by omega
  have c2 : ((place + 1 : Nat) : Int) + (ar : Int) = ((place + 1 + ar : Nat) : Int) := by omega
  rw [c1, c2, vInts_slice, show place + 1 + ar - (place + 1) = ar from by omega, ← e2]
  have s1 := Same.new (o := .lst (vInts r.nums)) n1
  have ha1 := s1.seq ha
  have q1 : upd H p1 (.lst (vInts r.nums)) p1 = some (.lst (vInts r.nums)) := upd_same
  generalize upd H p1 (.lst (vInts r.nums)) = H1 at *
  repeat walk_at "ub1"
  refine (show tGT _ _ _ _ _ from fun aw hW => ?_)
  refine ⟨aw, _, rfl, .inr (hW _), rfl, flat_vInts _, ?_⟩
  rw [if_pos rfl, not_in02]
  repeat walk_at "ub1"
  cases hc with
  | plain num' ar' h' ha' hr =>
    rw [hnum] at h'
    cases h'
    rw [har] at ha'
    cases ha'
    refine ite_nb (fun _ => ?_) (fun z => ?_)
    · repeat walk_at "ub1"
      refine ⟨Nat.zero_le _, fun p2 n2 => ?_⟩
      have s2 := Same.new (o := .lst []) n2
      repeat walk_at "ub1"
      refine ⟨by show 4 ≤ sizeLine; decide, fun t ht => ?_⟩
      have s3 := Same.new (o := .tup [iV num, .ref p1, .ref p2, V.int ((place + 1 + ar : Nat) : Int)]) ht
      exact k _ t p1 p2 (s1.trans (s2.trans s3)) n1 (s1.free n2) upd_same ((s2.trans s3) _ _ q1) (s3 _ _ upd_same)
    · simp at z
      omega
  | row num' ar' n h' ha' hr hn =>
    rw [hnum] at h'
    cases h'
    rw [har] at ha'
    cases ha'
    refine ite_nb (fun z => ?_) (fun _ => ?_)
    · simp at z
      omega
    · repeat walk_at "ub1"
      refine ⟨a, _, _, iV n, rfl, rfl, ha1, at_of rfl (vInts_get hn), ?_⟩
      repeat walk_at "ub1"
      refine ⟨a, _, rfl, ha1, fun p2 n2 => ?_⟩
      have c3 : ((place + 1 + ar : Nat) : Int) + 1 = ((place + 1 + ar + 1 : Nat) : Int) := by omega
      have c4 : ((place + 1 + ar + 1 : Nat) : Int) + (n : Int) = ((place + 1 + ar + 1 + n : Nat) : Int) := by omega
      rw [c3, c4, vInts_slice, show place + 1 + ar + 1 + n - (place + 1 + ar + 1) = n from by omega]
      have s2 := Same.new (o := .lst (vInts ((l.drop (place + 1 + ar + 1)).take n))) n2
      repeat walk_at "ub1"
      refine ⟨by show 4 ≤ sizeLine; decide, fun t ht => ?_⟩
      have s3 := Same.new (o := .tup [iV num, .ref p1, .ref p2, V.int ((place + 1 + ar + 1 + n : Nat) : Int)]) ht
      exact k _ t p1 p2 (s1.trans (s2.trans s3)) n1 (s1.free n2) upd_same ((s2.trans s3) _ _ q1) (s3 _ _ upd_same)
/-- a call's tuple -/
def TupAt (H0 H : Hp) (p : Addr) (t : Addr) (r : Raw) : Prop := ∃ pn pr, H t = some (.tup [iV r.num, .ref pn, .ref pr]) ∧ H pn = some (.lst (vInts r.nums)) ∧ H pr = some (.lst (vInts r.row)) ∧ pn ≠ p ∧ pr ≠ p ∧ H0 t = none ∧ H0 pn = none ∧ H0 pr = none
theorem TupAt.go {H0 H H' : Hp} {p : Addr} {t : Addr} {r : Raw} (h : TupAt H0 H p t r) (hp : ∃ xs, H p = some (.lst xs)) (f : ∀ b o, H b = some o → b ≠ p → H' b = some o) : TupAt H0 H' p t r := by
  obtain ⟨pn, pr, h1, h2, h3, h4, h5, h6⟩ := h
  obtain ⟨xs, hp⟩ := hp
  exact ⟨pn, pr, f _ _ h1 (ne_of h1 hp (by intro q; cases q)), f _ _ h2 h4, f _ _ h3 h5, h4, h5, h6⟩
theorem Cut.len {l : List Nat} {p : Nat} {cs : List Raw} (h : Cut l p cs) : cs.length ≤ l.length - p := by
  induction h with
  | nil p h => exact Nat.zero_le _
  | cons p q r cs h t ih =>
    have := h.lt
    rw [List.length_cons]
    omega
def sp_calls_in (K : PySem.W.Frag) (C : Cl) : Sp := fun vs H Q _ => vs.length = 1 ∧ ∃ (a : Addr) (l : List Nat) (cs : List Raw), vs = [.ref a] ∧ SqL K H a (vInts l) ∧ Cut l 0 cs ∧ l.length ≤ 30000 ∧
  ∀ (H' : Hp) (p : Addr) (ts : List Addr), Same H H' → H p = none → H' p = some (.lst (ts.map V.ref)) → Paired (TupAt H H' p) ts cs → Q (.ref p) H'
abbrev s_calls_in : Stmt := topS 4
theorem sc_calls_in : FnScope ["calls", "found", "place", "number", "numbers", "row"] ["calls"] (defScope s_calls_in) := ⟨rfl, rfl, rfl, by decide +kernel, rfl, by decide +kernel, by decide +kernel⟩
theorem b_calls_in : Bind "calls_in" "calls_in" s_calls_in ["calls"] := fun _ _ _ _ _ _ us hl => match us, hl with | [_], _ => rfl
theorem ok_calls_in (T : Txt K mg C) (D : DefF K mg "calls_in" s_calls_in) (c_call_at : CalF P w K mg base 1 "call_at" ["calls", "place"] (sp_call_at K C)) : CalF P w K mg base 2 "calls_in" ["calls"] (sp_calls_in K C) := by
  refine D.cal b_calls_in fun f fd F => F.ok sc_calls_in (fun vs H Q E h => h.1) (fun cdv A outer s H vs Q E hr h => ?_)
  have hu := hu_of hr
  refine ⟨_, (pss_cons (ps_set (i := 1) sc_calls_in.nd rfl (Or.inl rfl) (pe_lst pa_nil))
        (pss_cons (ps_set (i := 2) sc_calls_in.nd rfl (Or.inl rfl) pe_int)
        (pss_cons (ps_while PassesOwn.never (pt_cmpR op_lt (pv 2) (pe_callB call_len_seq (by rfl) T.len PySem.boot_len (pa_cons (pv 0) pa_nil)) (nomark _)) (pss_cons (ps_asg (pf c_call_at hr (by decide) (by rfl) (pa_cons (pv 0) (pa_cons (pv 2) pa_nil))) (pg_tup rfl (pgs_cons (pg_name (i := 3) sc_calls_in.nd rfl (Or.inl rfl)) (pgs_cons (pg_name (i := 4) sc_calls_in.nd rfl (Or.inl rfl)) (pgs_cons (pg_name (i := 5) sc_calls_in.nd rfl (Or.inl rfl)) (pgs_cons (pg_name (i := 2) sc_calls_in.nd rfl (Or.inl rfl)) pgs_nil))))))
        (pss_one (ps_expr (pe_bm PySem.F.plainAttrs_list PySem.F.slot_list_append PySem.F.type_list_append mt_append (pv 1) (pa_cons (pe_tup (pa_cons (pv 3) (pa_cons (pv 4) (pa_cons (pv 5) pa_nil)))) pa_nil))))))
        (pss_one (ps_ret (pv 1)))))), ?_⟩
  obtain ⟨_, a, l, cs, rfl, ha, hc, hl, k⟩ := h
  repeat walk_at "ub1"
  refine ⟨Nat.zero_le _, fun p hp => ?_⟩
  have s1 := Same.new (o := .lst []) hp
  repeat walk_at "ub1"
  refine ⟨fun m σ H' => ∃ (place : Nat) (done rest : List Raw) (ts : List Addr) (v3 v4 v5 : Option V), m = l.length - place ∧ σ = [some (.ref a), some (.ref p), some (iV place), v3, v4, v5] ∧ cs = done ++ rest ∧ Cut l place rest ∧ Same H H' ∧ H' p = some (.lst (ts.map V.ref)) ∧ Paired (TupAt H H' p) ts done,
    ⟨_, 0, [], cs, [], none, none, none, rfl, rfl, rfl, hc, s1, upd_same, .nil⟩, ?_⟩
  rintro m σ H' ⟨place, done, rest, ts, v3, v4, v5, rfl, rfl, ecs, hcut, s, hpl, htup⟩
  have ha' := s.seq ha
  repeat walk_at "ub1"
  refine ⟨a, _, rfl, .inl ha', ?_⟩
  repeat walk_at "ub1"
  rw [vInts_len]
  refine ite_dec (fun c => ?_) (fun c => ?_)
  · cases hcut with
    | nil _ h => omega
    | cons _ q r cs' hat tl =>
      have hlt := hat.lt
      have hcl := hc.len
      rw [ecs] at hcl
      have htl := paired_len htup
      rw [List.length_append, List.length_cons] at hcl
      refine ⟨_, fun σ' H' n => n, ?_⟩
      repeat walk_at "ub1"
      refine ⟨rfl, a, l, place, q, r, rfl, ha', hat, fun H2 t pn pr s2 nn nr ht hn hr2 => ?_⟩
      refine ⟨t, _, rfl, SqT.of ht, rfl, _, _, rfl, _, _, rfl, _, _, rfl, _, _, rfl, rfl, ?_⟩
      have hpl2 := s2 _ _ hpl
      have npn : pn ≠ p := (ne_of_none hpl nn).symm
      have npr : pr ≠ p := (ne_of_none hpl nr).symm
      repeat walk_at "ub1"
      refine ⟨.inl ⟨rfl, _, SqL.of hpl2⟩, ?_⟩
      repeat walk_at "ub1"
      refine ⟨by show 3 ≤ sizeLine; decide, fun t2 nt2 => ?_⟩
      have s3 := Same.new (o := .tup [iV r.num, .ref pn, .ref pr]) nt2
      have hpl3 := s3 _ _ hpl2
      repeat walk_at "ub1"
      refine ⟨p, _, .ref t2, rfl, rfl, hpl3, bigl (by rw [List.length_map]; omega), ?_⟩
      have s23 : Same H' (upd H2 t2 (.tup [iV r.num, .ref pn, .ref pr])) := s2.trans s3
      have hq : TupAt H (upd H2 t2 (.tup [iV r.num, .ref pn, .ref pr])) p t2 r := ⟨pn, pr, upd_same, s3 _ _ hn, s3 _ _ hr2, npn, npr, (s.trans s2).free nt2, s.free nn, s.free nr⟩
      generalize upd H2 t2 (.tup [iV r.num, .ref pn, .ref pr]) = H3 at *
      have up : ∀ b o, H3 b = some o → b ≠ p → upd H3 p (.lst (ts.map V.ref ++ [.ref t2])) b = some o := fun b o e z => by
        rw [upd_ne z]
        exact e
      have old : ∀ b o, H' b = some o → b ≠ p → upd H3 p (.lst (ts.map V.ref ++ [.ref t2])) b = some o := fun b o e z => up b o (s23 b o e) z
      refine ⟨_, by omega, q, done ++ [r], cs', ts ++ [t2], _, _, _, rfl, rfl, by rw [ecs, List.append_assoc]; rfl, tl, fun b o e => ?_, ?_, ?_⟩
      · exact old b o (s b o e) (ne_of_none e hp)
      · rw [upd_same, List.map_append]
        rfl
      · exact paired_app (Paired.mapP htup fun x y h => h.go ⟨_, hpl⟩ old) (.cons (hq.go ⟨_, hpl3⟩ up) .nil)
  · have er : rest = [] := by
      cases hcut with
      | nil _ h => rfl
      | cons _ q r cs' hat tl =>
        have := hat.lt
        omega
    subst er
    rw [List.append_nil] at ecs
    subst ecs
    repeat walk_at "ub1"
    exact k _ p ts s hp hpl htup
/-- the answers, one call behind another, and the calls as they are asked -/
def playM : Se → List Ue03.Call → List (List Int)
  | _, [] => []
  | M, c :: cs => (stepM M c).2 :: playM (stepM M c).1 cs
def toldM (l : List (List Int)) : List Int := l.flatMap fun a => (a.length : Int) :: a
inductive Plays : Se → List Raw → List Ue03.Call → Prop
  | nil (M : Se) : Plays M [] []
  | cons (M : Se) (r : Raw) (rs : List Raw) (c : Ue03.Call) (cs : List Ue03.Call) (hf : Fit M) (hc : IsCall r.num r.nums r.row c) (hl : r.row.length ≤ 350) (t : Plays (stepM M c).1 rs cs) : Plays M (r :: rs) (c :: cs)
theorem toldM_cons (a : List Int) (l : List (List Int)) : toldM (a :: l) = ((a.length : Int) :: a) ++ toldM l := rfl
theorem SessAt.poke {G : Gh} {H : Hp} {M : Se} {p : Addr} (ss : SessAt C G H M) (hl : G.L p = some .out) (o : HO) : SessAt C G (upd H p o) M := by
  have ho : ∀ b u, H b = some u → G.L b ≠ some .out → upd H p o b = some u := fun b u e z => by
    rw [upd_ne (ne_lab (by rw [hl]; exact z))]
    exact e
  have f0 : Frm G H G (upd H p o) := fun b u e l => ⟨ho b u e (by rw [l]; simp), l⟩
  refine ⟨?_, ss.tree.poke hl rfl o⟩
  obtain ⟨dx, g, d, h1, h2, h3⟩ := ss.obj
  refine ⟨dx, g, d, ho _ _ h1 (by rw [h2]; simp), h2, fun cs t e => ?_⟩
  obtain ⟨ga, da, as, e1, e2, k1, k2, k3, k4⟩ := h3 cs t e
  exact ⟨ga, da, as, e1, e2, ho _ _ k1 (by rw [k2]; simp), k2, k3.frm f0, k4.frm f0⟩
theorem SessAt.lab {G : Gh} {H : Hp} {M : Se} {p : Addr} (ss : SessAt C G H M) (hp : H p = none) (o : HO) : SessAt C (G.lab p .out) (upd H p o) M := by
  have ne : ∀ b u, H b = some u → (G.lab p .out).L b = G.L b := fun b u e => if_neg (ne_of_none e hp)
  have s := Same.new (o := o) hp
  have f0 : Frm G H (G.lab p .out) (upd H p o) := fun b u e l => ⟨s b u e, (ne b u e).trans l⟩
  refine ⟨?_, ss.tree.lab hp o .out⟩
  obtain ⟨dx, g, d, h1, h2, h3⟩ := ss.obj
  refine ⟨dx, g, d, s _ _ h1, (ne _ _ h1).trans h2, fun cs t e => ?_⟩
  obtain ⟨ga, da, as, e1, e2, k1, k2, k3, k4⟩ := h3 cs t e
  exact ⟨ga, da, as, e1, e2, s _ _ k1, (ne _ _ k1).trans k2, k3.frm f0, k4.frm f0⟩
def sp_answers (K : PySem.W.Frag) (C : Cl) : Sp := fun vs H Q _ => vs.length = 1 ∧ ∃ (a : Addr) (l : List Nat) (rs : List Raw) (cs : List Ue03.Call), vs = [.ref a] ∧ SqL K H a (vInts l) ∧ Cut l 0 rs ∧ l.length ≤ 30000 ∧ Plays Se.init rs cs ∧ (toldM (playM Se.init cs)).length ≤ 10000000 ∧
  ∀ (H' : Hp) (p : Addr), H' p = some (.lst ((toldM (playM Se.init cs)).map V.int)) → Q (.ref p) H'
abbrev s_answers : Stmt := topS 52
theorem sc_answers : FnScope ["calls", "session", "found", "call", "numbers", "row", "told"] ["calls"] (defScope s_answers) := ⟨rfl, rfl, rfl, by decide +kernel, rfl, by decide +kernel, by decide +kernel⟩
theorem b_answers : Bind "answers" "answers" s_answers ["calls"] := fun _ _ _ _ _ _ us hl => match us, hl with | [_], _ => rfl
theorem okF_answers (T : Txt K mg C) {f : Addr} {fd : FuncData} (F : Fun K "answers" "answers" s_answers f fd) (c_calls_in : CalF P w K mg base 2 "calls_in" ["calls"] (sp_calls_in K C)) (c_answer : CalF P w K mg base 7 "answer" ["session", "call", "numbers", "row"] (sp_answer K C)) (c_Session_init : CalI P w K mg base 5 C.se ["self"] (sp_Session_init K C)) : FnOk P w K mg base CX0 8 f fd ["calls"] (sp_answers K C) := by
  refine F.ok sc_answers (fun vs H Q E h => h.1) (fun cdv A outer s H vs Q E hr h => ?_)
  have hu := hu_of hr
  refine ⟨_, (pss_cons (ps_set (i := 1) sc_answers.nd rfl (Or.inl rfl) (pi0 c_Session_init hr (by decide) (by rfl) T.gSe))
        (pss_cons (ps_set (i := 2) sc_answers.nd rfl (Or.inl rfl) (pe_lst pa_nil))
        (pss_cons (ps_for PassesOwn.never rfl (pi_list (pf c_calls_in hr (by decide) (by rfl) (pa_cons (pv 0) pa_nil))) (pg_tup rfl (pgs_cons (pg_name (i := 3) sc_answers.nd rfl (Or.inl rfl)) (pgs_cons (pg_name (i := 4) sc_answers.nd rfl (Or.inl rfl)) (pgs_cons (pg_name (i := 5) sc_answers.nd rfl (Or.inl rfl)) pgs_nil)))) (pss_cons (ps_set (i := 6) sc_answers.nd rfl (Or.inl rfl) (pf c_answer hr (by decide) (by rfl) (pa_cons (pv 1) (pa_cons (pv 3) (pa_cons (pv 4) (pa_cons (pv 5) pa_nil))))))
        (pss_cons (ps_expr (pe_bm PySem.F.plainAttrs_list PySem.F.slot_list_append PySem.F.type_list_append mt_append (pv 2) (pa_cons (pe_callB call_len_seq (by rfl) T.len PySem.boot_len (pa_cons (pv 6) pa_nil)) pa_nil)))
        (pss_one (ps_expr (pe_bm PySem.F.plainAttrs_list PySem.F.slot_list_extend PySem.F.type_list_extend mt_extend (pv 2) (pa_cons (pv 6) pa_nil)))))))
        (pss_one (ps_ret (pv 2)))))), ?_⟩
  obtain ⟨_, a, l, rs, cs, rfl, ha, hcut, hl, hplay, hbig, k⟩ := h
  repeat walk_at "ub1"
  intro s dx ns nd nds
  refine ⟨rfl, s, dx, rfl, upd_same, fun H1 G es ss old => ⟨rfl, ?_⟩⟩
  have s1 : Same H H1 := fun b u e => (old b u (by rw [upd_ne (ne_of_none e ns), upd_ne (ne_of_none e nd)]; exact e) (ne_of_none e ns)).1
  repeat walk_at "ub1"
  refine ⟨Nat.zero_le _, fun pf hpf => ?_⟩
  have ss2 := ss.lab hpf (.lst [])
  have lf : (G.lab pf .out).L pf = some .out := if_pos rfl
  have s2 := s1.trans (Same.new (o := .lst []) hpf)
  have es2 : (G.lab pf .out).s = s := es
  have q2 : upd H1 pf (.lst []) pf = some (.lst []) := upd_same
  generalize G.lab pf .out = G2 at *
  generalize upd H1 pf (.lst []) = H2 at *
  subst es2
  repeat walk_at "ub1"
  refine ⟨rfl, a, l, rs, rfl, s2.seq ha, hcut, hl, fun H3 p ts s3 np hp htup => ?_⟩
  have ss3 := ss2.same s3
  have lp : G2.L p = none := ss2.tree.lok p np
  have npf : p ≠ pf := fun e => by rw [e, q2] at np; cases np
  have clean : ∀ t r, TupAt H2 H3 p t r → ∃ pn pr, H3 t = some (.tup [iV r.num, .ref pn, .ref pr]) ∧ H3 pn = some (.lst (vInts r.nums)) ∧ H3 pr = some (.lst (vInts r.row)) ∧ G2.L pn = none ∧ G2.L pr = none ∧ G2.L t = none := fun t r ⟨pn, pr, h1, h2, h3, _, _, h6, h7, h8⟩ => ⟨pn, pr, h1, h2, h3, ss2.tree.lok _ h7, ss2.tree.lok _ h8, ss2.tree.lok _ h6⟩
  have hlen := paired_len htup
  -- what the tuples and their lists need not fear: they are nobody's
  refine ⟨p, rfl, ⟨_, SqL.of hp⟩, for_list (K := K) (a := p) (xs := ts.map V.ref) (fun i σ H' => ∃ (G' : Gh) (M : Se) (acc : List Int) (v3 v4 v5 v6 : Option V), σ = [some (.ref a), some (.ref G2.s), some (.ref pf), v3, v4, v5, v6] ∧ G'.s = G2.s ∧ SessAt C G' H' M ∧ G'.L pf = some .out ∧ H' pf = some (.lst (acc.map V.int)) ∧ Plays M (rs.drop i) (cs.drop i) ∧
      toldM (playM Se.init cs) = acc ++ toldM (playM M (cs.drop i)) ∧ (∀ b o, H3 b = some o → G2.L b = none → H' b = some o ∧ G'.L b = none))
    ⟨G2, Se.init, [], none, none, none, none, rfl, rfl, ss3, lf, s3 _ _ q2, hplay, rfl, fun b o e l => ⟨e, l⟩⟩ (fun i σ H' _ ⟨_, _, _, _, _, _, _, _, _, _, _, _, _, _, q⟩ => SqL.of (q _ _ hp lp).1) ?_ ?_⟩
  · rintro i y σ H' hi ⟨G', M, acc, v3, v4, v5, v6, rfl, eg, ss', lf', hf', hpl, etold, keep⟩
    obtain ⟨t, ht, rfl⟩ := refs_at hi
    obtain ⟨r, hr2, htr⟩ := paired_at htup ht
    obtain ⟨hlt, er⟩ := List.getElem?_eq_some_iff.mp hr2
    rw [List.drop_eq_getElem_cons hlt, er] at hpl
    generalize hcd : cs.drop i = cd at hpl etold
    cases hpl with
    | cons _ _ _ c cs' ft hc hrow tl =>
    obtain ⟨pn, pr, h1, h2, h3, ln, lr, lt⟩ := clean t r htr
    obtain ⟨h1', _⟩ := keep _ _ h1 lt
    obtain ⟨h2', _⟩ := keep _ _ h2 ln
    obtain ⟨h3', _⟩ := keep _ _ h3 lr
    refine ⟨t, _, rfl, SqT.of h1', rfl, _, _, rfl, _, _, rfl, _, _, rfl, rfl, ?_⟩
    have etl : toldM (playM Se.init cs) = acc ++ (((stepM M c).2.length : Int) :: (stepM M c).2) ++ toldM (playM (stepM M c).1 cs') := by
      rw [etold, List.append_assoc]
      rfl
    have hsz : acc.length + ((stepM M c).2.length + 1) ≤ 10000000 := by
      rw [etl, List.length_append, List.length_append, List.length_cons] at hbig
      omega
    rw [← eg]
    repeat walk_at "ub1"
    refine ⟨rfl, G', M, r.num, r.nums, r.row, pn, pr, c, rfl, ss', ft, h2', h3', hrow, hc, fun H5 G5 q5 e5 ss5 f5 nw5 hq5 => ?_⟩
    obtain ⟨hf5, lf5⟩ := f5 _ _ hf' (.inr lf')
    have lf5' : G5.L pf = some .out := lf5.trans lf'
    have nqf : q5 ≠ pf := nw5 _ _ hf' (.inr lf')
    repeat walk_at "ub1"
    refine ⟨.inl ⟨rfl, _, SqL.of hf5⟩, ?_⟩
    repeat walk_at "ub1"
    refine ⟨q5, _, rfl, .inl (SqL.of hq5), ?_⟩
    repeat walk_at "ub1"
    refine ⟨pf, _, _, rfl, rfl, hf5, bigl (by rw [List.length_map]; omega), ?_⟩
    have ss6 := ss5.poke lf5' (.lst (acc.map V.int ++ [V.int ((((stepM M c).2.map V.int).length : Nat) : Int)]))
    have hq6 : upd H5 pf (.lst (acc.map V.int ++ [V.int ((((stepM M c).2.map V.int).length : Nat) : Int)])) q5 = _ := (upd_ne nqf).trans hq5
    have hf6 : upd H5 pf (.lst (acc.map V.int ++ [V.int ((((stepM M c).2.map V.int).length : Nat) : Int)])) pf = some (.lst ((acc ++ [((stepM M c).2.length : Int)]).map V.int)) := by
      rw [upd_same, List.map_append, List.length_map]
      rfl
    have k6 : ∀ b o, H5 b = some o → b ≠ pf → upd H5 pf (.lst (acc.map V.int ++ [V.int ((((stepM M c).2.map V.int).length : Nat) : Int)])) b = some o := fun b o e z => by
      rw [upd_ne z]
      exact e
    generalize upd H5 pf (.lst (acc.map V.int ++ [V.int ((((stepM M c).2.map V.int).length : Nat) : Int)])) = H6 at *
    repeat walk_at "ub1"
    refine ⟨.inl ⟨rfl, _, SqL.of hf6⟩, ?_⟩
    repeat walk_at "ub1"
    refine ⟨pf, q5, _, _, rfl, rfl, hf6, hq6, big (by rw [List.length_map, List.length_map, List.length_append, List.length_singleton]; omega), ?_⟩
    refine ⟨G5, (stepM M c).1, acc ++ (((stepM M c).2.length : Int) :: (stepM M c).2), _, _, _, _, rfl, e5, ss6.poke lf5' _, lf5', ?_, ?_, ?_, fun b o e l => ?_⟩
    · rw [upd_same, ← List.map_append, List.append_assoc]
      rfl
    · have ec : cs.drop (i + 1) = cs' := by
        rw [← List.tail_drop, hcd]
        rfl
      rw [ec]
      exact tl
    · have ec : cs.drop (i + 1) = cs' := by
        rw [← List.tail_drop, hcd]
        rfl
      rw [ec]
      exact etl
    · obtain ⟨w1, w2⟩ := keep b o e l
      obtain ⟨w3, w4⟩ := f5 b o w1 (.inl w2)
      have nb : b ≠ pf := fun z => by rw [z, lf'] at w2; cases w2
      refine ⟨?_, w4.trans w2⟩
      rw [upd_ne nb]
      exact k6 b o w3 nb
  · rintro σ H' ⟨G', M, acc, v3, v4, v5, v6, rfl, eg, ss', lf', hf', hpl, etold, keep⟩
    rw [List.length_map, hlen, List.drop_length] at hpl
    rw [List.length_map, hlen] at etold
    generalize hcd : cs.drop rs.length = cd at hpl etold
    cases hpl with
    | nil =>
    repeat walk_at "ub1"
    refine k _ pf ?_
    rw [hf', etold]
    show _ = some (HO.lst ((acc ++ []).map V.int))
    rw [List.append_nil]
end
/-! ### the end: what the top has written -/
section
variable {K : PySem.W.Frag} {mg : Str → Option Value} {h : Heap}
theorem mkF {x : Str} {st : Stmt} {f : Addr} {oc : Value} {od an : Option Addr} {osl : Array (Option Value)} {kV doc pm cdv ct : Value} (X : K.In h) (G : h.Ns mainGlobals mg) (a : PySem.W.nsIn K mainGlobals x = some (some (.ref f)))
    (l : K.lookup f = some ⟨oc, od, .func (PySem.W.fnOf x x (defArgs st) (defBody st) (defScope st) .none kV doc pm an cdv ct), osl⟩) (c : PySem.W.codeIn K cdv x = true) (k : PySem.W.keepIn K (.ref f) = true) : DefF K mg x st :=
  ⟨f, _, fun_mk l c k, PySem.W.mg_of X G a⟩
theorem mkM {C : Addr} {m qual : Str} {st : Stmt} {f : Addr} {oc : Value} {od an : Option Addr} {osl : Array (Option Value)} {kV doc pm cdv ct : Value} (a : PySem.W.findIn K (.ref C) m = some (some (.ref f))) (i : PySem.W.isFn K (.ref f) = true)
    (l : K.lookup f = some ⟨oc, od, .func (PySem.W.fnOf m qual (defArgs st) (defBody st) (defScope st) .none kV doc pm an cdv ct), osl⟩) (c : PySem.W.codeIn K cdv qual = true) (k : PySem.W.keepIn K (.ref f) = true) : DefM K C m qual st :=
  ⟨f, _, fun_mk l c k, ⟨a, i, k⟩⟩
theorem mkI {C : Addr} {qual : Str} {st : Stmt} {f : Addr} {oc : Value} {od an : Option Addr} {osl : Array (Option Value)} {kV doc pm cdv ct : Value} (mk : PySem.W.makesIn K C = true) (kc : PySem.W.keepIn K (.ref C) = true) (a : PySem.W.findIn K (.ref C) "__init__" = some (some (.ref f))) (i : PySem.W.isFn K (.ref f) = true)
    (l : K.lookup f = some ⟨oc, od, .func (PySem.W.fnOf "__init__" qual (defArgs st) (defBody st) (defScope st) .none kV doc pm an cdv ct), osl⟩) (c : PySem.W.codeIn K cdv qual = true) (k : PySem.W.keepIn K (.ref f) = true) : DefI K C qual st :=
  ⟨f, _, fun_mk l c k, ⟨mk, a, i, kc⟩⟩
theorem mkC {C : Addr} (pg : PySem.W.plainGet K C Str.empty = true) (hd : PySem.W.hasDictIn K C = true) (po : PySem.W.plainOver K C = true) (sa : PySem.W.findIn K (.ref C) "__setattr__" = some (some (.builtin "object.__setattr__"))) : Cls K C := ⟨pg, hd, po, sa⟩
theorem mkK {x : Str} {i : Int} {t : Tok} (X : K.In h) (G : h.Ns mainGlobals mg) (a : PySem.W.nsIn K mainGlobals x = some (some (.int i t))) : ∃ t, mg x = some (.int i t) := ⟨t, PySem.W.mg_of X G a⟩
theorem mkT {x : Str} {l : List Nat} {a : Addr} {o : Obj} (X : K.In h) (G : h.Ns mainGlobals mg) (e : PySem.W.nsIn K mainGlobals x = some (some (.ref a))) (lk : K.lookup a = some o)
    (q : o.cls = .type "tuple" ∧ ∃ its n, o.data = .seq its n ∧ its.size ≤ sizeLine ∧ Vals (vInts l) its.toList) : ∃ a, mg x = some (.ref a) ∧ ∀ H, SqT K H a (vInts l) := by
  obtain ⟨q1, its, n, q2, q3, q4⟩ := q
  exact ⟨a, PySem.W.mg_of X G e, fun H => .inr ⟨o, its, n, lk, q1, q2, q3, q4⟩⟩
end
section
variable {P : Program} {w : World} {K : PySem.W.Frag} {mg : Str → Option Value} {C : Cl}
theorem finish (T : Txt K mg C)
    (D_call_at : DefF K mg "call_at" s_call_at)
    (D_calls_in : DefF K mg "calls_in" s_calls_in)
    (D_Tree_state : DefM K C.tr "state" "Tree.state" s_Tree_state)
    (D_Tree_has : DefM K C.tr "has" "Tree.has" s_Tree_has)
    (D_Session_text_of : DefM K C.se "text_of" "Session.text_of" s_Session_text_of)
    (D_Tree_way_to : DefM K C.tr "way_to" "Tree.way_to" s_Tree_way_to)
    (D_exchanged : DefF K mg "exchanged" s_exchanged)
    (D_origins_behind : DefF K mg "origins_behind" s_origins_behind)
    (D_origins_of : DefF K mg "origins_of" s_origins_of)
    (D_Session_origins : DefM K C.se "origins" "Session.origins" s_Session_origins)
    (D_shared : DefF K mg "shared" s_shared)
    (D_path_of : DefF K mg "path_of" s_path_of)
    (D_Session_path : DefM K C.se "path" "Session.path" s_Session_path)
    (D_Tree_numbers : DefM K C.tr "numbers" "Tree.numbers" s_Tree_numbers)
    (D_Session_leaves : DefM K C.se "leaves" "Session.leaves" s_Session_leaves)
    (D_Session_state_info : DefM K C.se "state_info" "Session.state_info" s_Session_state_info)
    (D_Tree_here : DefM K C.tr "here" "Tree.here" s_Tree_here)
    (D_Session_text_now : DefM K C.se "text_now" "Session.text_now" s_Session_text_now)
    (D_Session_get_text : DefM K C.se "get_text" "Session.get_text" s_Session_get_text)
    (D_telling : DefF K mg "telling" s_telling)
    (D_may_root_go : DefF K mg "may_root_go" s_may_root_go)
    (D_Tree_take_root_away : DefM K C.tr "take_root_away" "Tree.take_root_away" s_Tree_take_root_away)
    (D_without_roots : DefF K mg "without_roots" s_without_roots)
    (D_may_go : DefF K mg "may_go" s_may_go)
    (D_leaves_to_go : DefF K mg "leaves_to_go" s_leaves_to_go)
    (D_Tree_take_away : DefM K C.tr "take_away" "Tree.take_away" s_Tree_take_away)
    (D_without_leaves : DefF K mg "without_leaves" s_without_leaves)
    (D_forget : DefF K mg "forget" s_forget)
    (D_Session_forgotten : DefM K C.se "forgotten" "Session.forgotten" s_Session_forgotten)
    (D_Session_keep : DefM K C.se "keep" "Session.keep" s_Session_keep)
    (D_State_init : DefI K C.st "State.__init__" s_State_init)
    (D_Tree_create : DefM K C.tr "create" "Tree.create" s_Tree_create)
    (D_changed : DefF K mg "changed" s_changed)
    (D_Change_init : DefI K C.ch "Change.__init__" s_Change_init)
    (D_removed_bytes : DefF K mg "removed_bytes" s_removed_bytes)
    (D_start_behind : DefF K mg "start_behind" s_start_behind)
    (D_start_behind_all : DefF K mg "start_behind_all" s_start_behind_all)
    (D_changes_behind : DefF K mg "changes_behind" s_changes_behind)
    (D_reverting : DefF K mg "reverting" s_reverting)
    (D_Session_why_not_reverted : DefM K C.se "why_not_reverted" "Session.why_not_reverted" s_Session_why_not_reverted)
    (D_Session_revert : DefM K C.se "revert" "Session.revert" s_Session_revert)
    (D_Tree_visit : DefM K C.tr "visit" "Tree.visit" s_Tree_visit)
    (D_steps_of : DefF K mg "steps_of" s_steps_of)
    (D_Session_moved_to : DefM K C.se "moved_to" "Session.moved_to" s_Session_moved_to)
    (D_Session_moved_among : DefM K C.se "moved_among" "Session.moved_among" s_Session_moved_among)
    (D_Session_ago : DefM K C.se "ago" "Session.ago" s_Session_ago)
    (D_Session_later : DefM K C.se "later" "Session.later" s_Session_later)
    (D_Session_earlier : DefM K C.se "earlier" "Session.earlier" s_Session_earlier)
    (D_Session_go_to : DefM K C.se "go_to" "Session.go_to" s_Session_go_to)
    (D_Session_told_here : DefM K C.se "told_here" "Session.told_here" s_Session_told_here)
    (D_State_preferred : DefM K C.st "preferred" "State.preferred" s_State_preferred)
    (D_Session_redo : DefM K C.se "redo" "Session.redo" s_Session_redo)
    (D_Session_undo : DefM K C.se "undo" "Session.undo" s_Session_undo)
    (D_Session_end_group : DefM K C.se "end_group" "Session.end_group" s_Session_end_group)
    (D_Session_begin_group : DefM K C.se "begin_group" "Session.begin_group" s_Session_begin_group)
    (D_moving : DefF K mg "moving" s_moving)
    (D_are_bytes : DefF K mg "are_bytes" s_are_bytes)
    (D_Session_change : DefM K C.se "change" "Session.change" s_Session_change)
    (D_Session_wait : DefM K C.se "wait" "Session.wait" s_Session_wait)
    (D_Tree_init : DefI K C.tr "Tree.__init__" s_Tree_init)
    (D_Session_start : DefM K C.se "start" "Session.start" s_Session_start)
    (D_answer : DefF K mg "answer" s_answer)
    (D_Session_init : DefI K C.se "Session.__init__" s_Session_init)
    (D_answers : DefF K mg "answers" s_answers) {fa : Addr} (hmg : mg "answers" = some (.ref fa)) :
    ∃ fd : FuncData, (∀ (s : Shared) (us : List Value), us.length = (["calls"] : List Str).length → BindsTo s fd ⟨us, []⟩ ((["calls"] : List Str).zip us)) ∧ ∀ base : Heap, FnOk P w K mg base CX0 8 fa fd ["calls"] (sp_answers K C) := by
  obtain ⟨f, fd, F, g⟩ := D_answers.ex
  have e := hmg.symm.trans g
  cases e
  refine ⟨fd, fun s us hu => ?_, fun base => ?_⟩
  · obtain ⟨oc, od, kV, doc, pm, an, cdv, ct, osl, rfl, _, _⟩ := F.ex
    exact .of_eq (b_answers kV doc pm an cdv ct us hu)
  · have c_call_at : CalF P w K mg base 1 "call_at" ["calls", "place"] (sp_call_at K C) := ok_call_at T D_call_at
    have c_calls_in : CalF P w K mg base 2 "calls_in" ["calls"] (sp_calls_in K C) := ok_calls_in T D_calls_in c_call_at
    have c_Tree_state : CalM P w K mg base 1 C.tr "state" ["self", "number"] (sp_Tree_state K C) := ok_Tree_state T D_Tree_state
    have c_Tree_has : CalM P w K mg base 1 C.tr "has" ["self", "number"] (sp_Tree_has K C) := ok_Tree_has T D_Tree_has
    have c_Session_text_of : CalM P w K mg base 2 C.se "text_of" ["self", "number"] (sp_Session_text_of K C) := ok_Session_text_of T D_Session_text_of c_Tree_state c_Tree_has
    have c_Tree_way_to : CalM P w K mg base 1 C.tr "way_to" ["self", "number"] (sp_Tree_way_to K C) := ok_Tree_way_to T D_Tree_way_to
    have c_exchanged : CalF P w K mg base 1 "exchanged" ["row", "change", "inserted"] (sp_exchanged K C) := ok_exchanged T D_exchanged
    have c_origins_behind : CalF P w K mg base 2 "origins_behind" ["found", "state"] (sp_origins_behind K C) := ok_origins_behind T D_origins_behind c_exchanged
    have c_origins_of : CalF P w K mg base 3 "origins_of" ["tree"] (sp_origins_of K C) := ok_origins_of T D_origins_of c_Tree_way_to c_origins_behind c_Tree_state
    have c_Session_origins : CalM P w K mg base 4 C.se "origins" ["self"] (sp_Session_origins K C) := ok_Session_origins T D_Session_origins c_origins_of
    have c_shared : CalF P w K mg base 1 "shared" ["way", "other"] (sp_shared K C) := ok_shared T D_shared
    have c_path_of : CalF P w K mg base 2 "path_of" ["tree", "start", "goal"] (sp_path_of K C) := ok_path_of T D_path_of c_shared c_Tree_way_to
    have c_Session_path : CalM P w K mg base 3 C.se "path" ["self", "start", "goal"] (sp_Session_path K C) := ok_Session_path T D_Session_path c_path_of c_Tree_has
    have c_Tree_numbers : CalM P w K mg base 1 C.tr "numbers" ["self"] (sp_Tree_numbers K C) := ok_Tree_numbers T D_Tree_numbers
    have c_Session_leaves : CalM P w K mg base 2 C.se "leaves" ["self"] (sp_Session_leaves K C) := ok_Session_leaves T D_Session_leaves c_Tree_state c_Tree_numbers
    have c_Session_state_info : CalM P w K mg base 2 C.se "state_info" ["self", "number"] (sp_Session_state_info K C) := ok_Session_state_info T D_Session_state_info c_Tree_way_to c_Tree_state c_Tree_has
    have c_Tree_here : CalM P w K mg base 1 C.tr "here" ["self"] (sp_Tree_here K C) := ok_Tree_here T D_Tree_here
    have c_Session_text_now : CalM P w K mg base 2 C.se "text_now" ["self"] (sp_Session_text_now K C) := ok_Session_text_now T D_Session_text_now c_Tree_here
    have c_Session_get_text : CalM P w K mg base 3 C.se "get_text" ["self"] (sp_Session_get_text K C) := ok_Session_get_text T D_Session_get_text c_Session_text_now
    have c_telling : CalF P w K mg base 5 "telling" ["session", "call", "numbers"] (sp_telling K C) := ok_telling T D_telling c_Session_text_of c_Session_origins c_Session_path c_Session_leaves c_Session_state_info c_Session_get_text
    have c_may_root_go : CalF P w K mg base 2 "may_root_go" ["tree"] (sp_may_root_go K C) := ok_may_root_go T D_may_root_go c_Tree_state
    have c_Tree_take_root_away : CalM P w K mg base 1 C.tr "take_root_away" ["self"] (sp_Tree_take_root_away K C) := ok_Tree_take_root_away T D_Tree_take_root_away
    have c_without_roots : CalF P w K mg base 3 "without_roots" ["tree", "limit"] (sp_without_roots K C) := ok_without_roots T D_without_roots c_may_root_go c_Tree_take_root_away
    have c_may_go : CalF P w K mg base 2 "may_go" ["tree", "number"] (sp_may_go K C) := ok_may_go T D_may_go c_Tree_state
    have c_leaves_to_go : CalF P w K mg base 3 "leaves_to_go" ["tree"] (sp_leaves_to_go K C) := ok_leaves_to_go T D_leaves_to_go c_may_go c_Tree_numbers
    have c_Tree_take_away : CalM P w K mg base 1 C.tr "take_away" ["self", "number"] (sp_Tree_take_away K C) := ok_Tree_take_away T D_Tree_take_away
    have c_without_leaves : CalF P w K mg base 4 "without_leaves" ["tree", "limit"] (sp_without_leaves K C) := ok_without_leaves T D_without_leaves c_leaves_to_go c_Tree_take_away
    have c_forget : CalF P w K mg base 5 "forget" ["tree", "limit"] (sp_forget K C) := ok_forget T D_forget c_without_roots c_without_leaves
    have c_Session_forgotten : CalM P w K mg base 6 C.se "forgotten" ["self", "limit"] (sp_Session_forgotten K C) := ok_Session_forgotten T D_Session_forgotten c_forget
    have c_Session_keep : CalM P w K mg base 2 C.se "keep" ["self", "number", "kept"] (sp_Session_keep K C) := ok_Session_keep T D_Session_keep c_Tree_state c_Tree_has
    have c_State_init : CalI P w K mg base 1 C.st ["self", "number", "parent", "changes", "text", "time"] (sp_State_init K C) := ok_State_init T D_State_init
    have c_Tree_create : CalM P w K mg base 3 C.tr "create" ["self", "changes", "text", "time"] (sp_Tree_create K C) := ok_Tree_create T D_Tree_create c_Tree_here c_State_init
    have c_changed : CalF P w K mg base 2 "changed" ["text", "change"] (sp_changed K C) := ok_changed T D_changed c_exchanged
    have c_Change_init : CalI P w K mg base 1 C.ch ["self", "position", "removed", "inserted"] (sp_Change_init K C) := ok_Change_init T D_Change_init
    have c_removed_bytes : CalF P w K mg base 1 "removed_bytes" ["text", "change"] (sp_removed_bytes K C) := ok_removed_bytes T D_removed_bytes
    have c_start_behind : CalF P w K mg base 1 "start_behind" ["start", "size", "change"] (sp_start_behind K C) := ok_start_behind T D_start_behind
    have c_start_behind_all : CalF P w K mg base 2 "start_behind_all" ["start", "size", "changes"] (sp_start_behind_all K C) := ok_start_behind_all T D_start_behind_all c_start_behind
    have c_changes_behind : CalF P w K mg base 2 "changes_behind" ["tree", "number"] (sp_changes_behind K C) := ok_changes_behind T D_changes_behind c_Tree_state c_Tree_way_to
    have c_reverting : CalF P w K mg base 3 "reverting" ["tree", "number"] (sp_reverting K C) := ok_reverting T D_reverting c_Change_init c_removed_bytes c_Tree_state c_start_behind_all c_changes_behind
    have c_Session_why_not_reverted : CalM P w K mg base 2 C.se "why_not_reverted" ["self", "number"] (sp_Session_why_not_reverted K C) := ok_Session_why_not_reverted T D_Session_why_not_reverted c_Tree_state c_Tree_way_to c_Tree_has
    have c_Session_revert : CalM P w K mg base 4 C.se "revert" ["self", "number"] (sp_Session_revert K C) := ok_Session_revert T D_Session_revert c_Tree_create c_changed c_Tree_here c_reverting c_Session_why_not_reverted
    have c_Tree_visit : CalM P w K mg base 2 C.tr "visit" ["self", "number"] (sp_Tree_visit K C) := ok_Tree_visit T D_Tree_visit c_Tree_way_to
    have c_steps_of : CalF P w K mg base 2 "steps_of" ["tree", "start", "goal"] (sp_steps_of K C) := ok_steps_of T D_steps_of c_shared c_Tree_way_to
    have c_Session_moved_to : CalM P w K mg base 3 C.se "moved_to" ["self", "number"] (sp_Session_moved_to K C) := ok_Session_moved_to T D_Session_moved_to c_Tree_here c_Tree_visit c_steps_of
    have c_Session_moved_among : CalM P w K mg base 4 C.se "moved_among" ["self", "some", "n"] (sp_Session_moved_among K C) := ok_Session_moved_among T D_Session_moved_among c_Session_moved_to
    have c_Session_ago : CalM P w K mg base 5 C.se "ago" ["self", "ticks"] (sp_Session_ago K C) := ok_Session_ago T D_Session_ago c_Session_moved_among c_Tree_state c_Tree_numbers
    have c_Session_later : CalM P w K mg base 5 C.se "later" ["self", "n"] (sp_Session_later K C) := ok_Session_later T D_Session_later c_Session_moved_among c_Tree_numbers
    have c_Session_earlier : CalM P w K mg base 5 C.se "earlier" ["self", "n"] (sp_Session_earlier K C) := ok_Session_earlier T D_Session_earlier c_Session_moved_among c_Tree_numbers
    have c_Session_go_to : CalM P w K mg base 4 C.se "go_to" ["self", "number"] (sp_Session_go_to K C) := ok_Session_go_to T D_Session_go_to c_Tree_has c_Session_moved_to
    have c_Session_told_here : CalM P w K mg base 2 C.se "told_here" ["self"] (sp_Session_told_here K C) := ok_Session_told_here T D_Session_told_here c_Tree_here
    have c_State_preferred : CalM P w K mg base 1 C.st "preferred" ["self"] (sp_State_preferred K C) := ok_State_preferred T D_State_preferred
    have c_Session_redo : CalM P w K mg base 3 C.se "redo" ["self"] (sp_Session_redo K C) := ok_Session_redo T D_Session_redo c_Session_told_here c_State_preferred c_Tree_here
    have c_Session_undo : CalM P w K mg base 3 C.se "undo" ["self"] (sp_Session_undo K C) := ok_Session_undo T D_Session_undo c_Session_told_here c_Tree_here
    have c_Session_end_group : CalM P w K mg base 4 C.se "end_group" ["self"] (sp_Session_end_group K C) := ok_Session_end_group T D_Session_end_group c_Tree_create
    have c_Session_begin_group : CalM P w K mg base 2 C.se "begin_group" ["self"] (sp_Session_begin_group K C) := ok_Session_begin_group T D_Session_begin_group c_Tree_here
    have c_moving : CalF P w K mg base 6 "moving" ["session", "call", "numbers"] (sp_moving K C) := ok_moving T D_moving c_Session_ago c_Session_later c_Session_earlier c_Session_go_to c_Session_redo c_Session_undo c_Session_end_group c_Session_begin_group
    have c_are_bytes : CalF P w K mg base 1 "are_bytes" ["row"] (sp_are_bytes K C) := ok_are_bytes T D_are_bytes
    have c_Session_change : CalM P w K mg base 4 C.se "change" ["self", "position", "removed", "row"] (sp_Session_change K C) := ok_Session_change T D_Session_change c_Tree_create c_changed c_Change_init c_are_bytes c_Session_text_now
    have c_Session_wait : CalM P w K mg base 1 C.se "wait" ["self", "ticks"] (sp_Session_wait K C) := ok_Session_wait T D_Session_wait
    have c_Tree_init : CalI P w K mg base 3 C.tr ["self", "text"] (sp_Tree_init K C) := ok_Tree_init T D_Tree_init c_State_init
    have c_Session_start : CalM P w K mg base 5 C.se "start" ["self", "row"] (sp_Session_start K C) := ok_Session_start T D_Session_start c_Tree_init c_are_bytes
    have c_answer : CalF P w K mg base 7 "answer" ["session", "call", "numbers", "row"] (sp_answer K C) := ok_answer T D_answer c_telling c_Session_forgotten c_Session_keep c_Session_revert c_moving c_Session_change c_Session_wait c_Session_start
    have c_Session_init : CalI P w K mg base 5 C.se ["self"] (sp_Session_init K C) := ok_Session_init T D_Session_init c_Tree_init
    exact okF_answers T F c_calls_in c_answer c_Session_init
end
section
variable {P : Program} {w : World} {K : PySem.W.Frag} {mg : Str → Option Value} {h : Heap}
theorem all_mk {fa : Addr} {a_ch : Addr}
    {a_st : Addr}
    {a_tr : Addr}
    {a_se : Addr}
    {t_MOST_BYTES : Tok}
    {t_GREATEST_BYTE : Tok}
    {t_OVERLAPPED : Tok}
    {t_NOBODY : Tok}
    {t_OUT_OF_RANGE : Tok}
    {t_NO_STATE : Tok}
    {t_MANY_CHANGES : Tok}
    {t_LONG_REVERTED : Tok}
    {t_TOO_LONG : Tok}
    {t_NOT_ON_PATH : Tok}
    {t_NOWHERE : Tok}
    {t_OVERLAPS : Tok}
    {t_GROUP : Tok}
    {t_MOST_CLOCK : Tok}
    {a_NUMBERS : Addr} {o_NUMBERS : Obj}
    {a_WITH_ROW : Addr} {o_WITH_ROW : Obj}
    {f_call_at : Addr} {oc_call_at kV_call_at dc_call_at pm_call_at cd_call_at ct_call_at : Value} {od_call_at an_call_at : Option Addr} {sl_call_at : Array (Option Value)}
    {f_calls_in : Addr} {oc_calls_in kV_calls_in dc_calls_in pm_calls_in cd_calls_in ct_calls_in : Value} {od_calls_in an_calls_in : Option Addr} {sl_calls_in : Array (Option Value)}
    {f_Tree_state : Addr} {oc_Tree_state kV_Tree_state dc_Tree_state pm_Tree_state cd_Tree_state ct_Tree_state : Value} {od_Tree_state an_Tree_state : Option Addr} {sl_Tree_state : Array (Option Value)}
    {f_Tree_has : Addr} {oc_Tree_has kV_Tree_has dc_Tree_has pm_Tree_has cd_Tree_has ct_Tree_has : Value} {od_Tree_has an_Tree_has : Option Addr} {sl_Tree_has : Array (Option Value)}
    {f_Session_text_of : Addr} {oc_Session_text_of kV_Session_text_of dc_Session_text_of pm_Session_text_of cd_Session_text_of ct_Session_text_of : Value} {od_Session_text_of an_Session_text_of : Option Addr} {sl_Session_text_of : Array (Option Value)}
    {f_Tree_way_to : Addr} {oc_Tree_way_to kV_Tree_way_to dc_Tree_way_to pm_Tree_way_to cd_Tree_way_to ct_Tree_way_to : Value} {od_Tree_way_to an_Tree_way_to : Option Addr} {sl_Tree_way_to : Array (Option Value)}
    {f_exchanged : Addr} {oc_exchanged kV_exchanged dc_exchanged pm_exchanged cd_exchanged ct_exchanged : Value} {od_exchanged an_exchanged : Option Addr} {sl_exchanged : Array (Option Value)}
    {f_origins_behind : Addr} {oc_origins_behind kV_origins_behind dc_origins_behind pm_origins_behind cd_origins_behind ct_origins_behind : Value} {od_origins_behind an_origins_behind : Option Addr} {sl_origins_behind : Array (Option Value)}
    {f_origins_of : Addr} {oc_origins_of kV_origins_of dc_origins_of pm_origins_of cd_origins_of ct_origins_of : Value} {od_origins_of an_origins_of : Option Addr} {sl_origins_of : Array (Option Value)}
    {f_Session_origins : Addr} {oc_Session_origins kV_Session_origins dc_Session_origins pm_Session_origins cd_Session_origins ct_Session_origins : Value} {od_Session_origins an_Session_origins : Option Addr} {sl_Session_origins : Array (Option Value)}
    {f_shared : Addr} {oc_shared kV_shared dc_shared pm_shared cd_shared ct_shared : Value} {od_shared an_shared : Option Addr} {sl_shared : Array (Option Value)}
    {f_path_of : Addr} {oc_path_of kV_path_of dc_path_of pm_path_of cd_path_of ct_path_of : Value} {od_path_of an_path_of : Option Addr} {sl_path_of : Array (Option Value)}
    {f_Session_path : Addr} {oc_Session_path kV_Session_path dc_Session_path pm_Session_path cd_Session_path ct_Session_path : Value} {od_Session_path an_Session_path : Option Addr} {sl_Session_path : Array (Option Value)}
    {f_Tree_numbers : Addr} {oc_Tree_numbers kV_Tree_numbers dc_Tree_numbers pm_Tree_numbers cd_Tree_numbers ct_Tree_numbers : Value} {od_Tree_numbers an_Tree_numbers : Option Addr} {sl_Tree_numbers : Array (Option Value)}
    {f_Session_leaves : Addr} {oc_Session_leaves kV_Session_leaves dc_Session_leaves pm_Session_leaves cd_Session_leaves ct_Session_leaves : Value} {od_Session_leaves an_Session_leaves : Option Addr} {sl_Session_leaves : Array (Option Value)}
    {f_Session_state_info : Addr} {oc_Session_state_info kV_Session_state_info dc_Session_state_info pm_Session_state_info cd_Session_state_info ct_Session_state_info : Value} {od_Session_state_info an_Session_state_info : Option Addr} {sl_Session_state_info : Array (Option Value)}
    {f_Tree_here : Addr} {oc_Tree_here kV_Tree_here dc_Tree_here pm_Tree_here cd_Tree_here ct_Tree_here : Value} {od_Tree_here an_Tree_here : Option Addr} {sl_Tree_here : Array (Option Value)}
    {f_Session_text_now : Addr} {oc_Session_text_now kV_Session_text_now dc_Session_text_now pm_Session_text_now cd_Session_text_now ct_Session_text_now : Value} {od_Session_text_now an_Session_text_now : Option Addr} {sl_Session_text_now : Array (Option Value)}
    {f_Session_get_text : Addr} {oc_Session_get_text kV_Session_get_text dc_Session_get_text pm_Session_get_text cd_Session_get_text ct_Session_get_text : Value} {od_Session_get_text an_Session_get_text : Option Addr} {sl_Session_get_text : Array (Option Value)}
    {f_telling : Addr} {oc_telling kV_telling dc_telling pm_telling cd_telling ct_telling : Value} {od_telling an_telling : Option Addr} {sl_telling : Array (Option Value)}
    {f_may_root_go : Addr} {oc_may_root_go kV_may_root_go dc_may_root_go pm_may_root_go cd_may_root_go ct_may_root_go : Value} {od_may_root_go an_may_root_go : Option Addr} {sl_may_root_go : Array (Option Value)}
    {f_Tree_take_root_away : Addr} {oc_Tree_take_root_away kV_Tree_take_root_away dc_Tree_take_root_away pm_Tree_take_root_away cd_Tree_take_root_away ct_Tree_take_root_away : Value} {od_Tree_take_root_away an_Tree_take_root_away : Option Addr} {sl_Tree_take_root_away : Array (Option Value)}
    {f_without_roots : Addr} {oc_without_roots kV_without_roots dc_without_roots pm_without_roots cd_without_roots ct_without_roots : Value} {od_without_roots an_without_roots : Option Addr} {sl_without_roots : Array (Option Value)}
    {f_may_go : Addr} {oc_may_go kV_may_go dc_may_go pm_may_go cd_may_go ct_may_go : Value} {od_may_go an_may_go : Option Addr} {sl_may_go : Array (Option Value)}
    {f_leaves_to_go : Addr} {oc_leaves_to_go kV_leaves_to_go dc_leaves_to_go pm_leaves_to_go cd_leaves_to_go ct_leaves_to_go : Value} {od_leaves_to_go an_leaves_to_go : Option Addr} {sl_leaves_to_go : Array (Option Value)}
    {f_Tree_take_away : Addr} {oc_Tree_take_away kV_Tree_take_away dc_Tree_take_away pm_Tree_take_away cd_Tree_take_away ct_Tree_take_away : Value} {od_Tree_take_away an_Tree_take_away : Option Addr} {sl_Tree_take_away : Array (Option Value)}
    {f_without_leaves : Addr} {oc_without_leaves kV_without_leaves dc_without_leaves pm_without_leaves cd_without_leaves ct_without_leaves : Value} {od_without_leaves an_without_leaves : Option Addr} {sl_without_leaves : Array (Option Value)}
    {f_forget : Addr} {oc_forget kV_forget dc_forget pm_forget cd_forget ct_forget : Value} {od_forget an_forget : Option Addr} {sl_forget : Array (Option Value)}
    {f_Session_forgotten : Addr} {oc_Session_forgotten kV_Session_forgotten dc_Session_forgotten pm_Session_forgotten cd_Session_forgotten ct_Session_forgotten : Value} {od_Session_forgotten an_Session_forgotten : Option Addr} {sl_Session_forgotten : Array (Option Value)}
    {f_Session_keep : Addr} {oc_Session_keep kV_Session_keep dc_Session_keep pm_Session_keep cd_Session_keep ct_Session_keep : Value} {od_Session_keep an_Session_keep : Option Addr} {sl_Session_keep : Array (Option Value)}
    {f_State_init : Addr} {oc_State_init kV_State_init dc_State_init pm_State_init cd_State_init ct_State_init : Value} {od_State_init an_State_init : Option Addr} {sl_State_init : Array (Option Value)}
    {f_Tree_create : Addr} {oc_Tree_create kV_Tree_create dc_Tree_create pm_Tree_create cd_Tree_create ct_Tree_create : Value} {od_Tree_create an_Tree_create : Option Addr} {sl_Tree_create : Array (Option Value)}
    {f_changed : Addr} {oc_changed kV_changed dc_changed pm_changed cd_changed ct_changed : Value} {od_changed an_changed : Option Addr} {sl_changed : Array (Option Value)}
    {f_Change_init : Addr} {oc_Change_init kV_Change_init dc_Change_init pm_Change_init cd_Change_init ct_Change_init : Value} {od_Change_init an_Change_init : Option Addr} {sl_Change_init : Array (Option Value)}
    {f_removed_bytes : Addr} {oc_removed_bytes kV_removed_bytes dc_removed_bytes pm_removed_bytes cd_removed_bytes ct_removed_bytes : Value} {od_removed_bytes an_removed_bytes : Option Addr} {sl_removed_bytes : Array (Option Value)}
    {f_start_behind : Addr} {oc_start_behind kV_start_behind dc_start_behind pm_start_behind cd_start_behind ct_start_behind : Value} {od_start_behind an_start_behind : Option Addr} {sl_start_behind : Array (Option Value)}
    {f_start_behind_all : Addr} {oc_start_behind_all kV_start_behind_all dc_start_behind_all pm_start_behind_all cd_start_behind_all ct_start_behind_all : Value} {od_start_behind_all an_start_behind_all : Option Addr} {sl_start_behind_all : Array (Option Value)}
    {f_changes_behind : Addr} {oc_changes_behind kV_changes_behind dc_changes_behind pm_changes_behind cd_changes_behind ct_changes_behind : Value} {od_changes_behind an_changes_behind : Option Addr} {sl_changes_behind : Array (Option Value)}
    {f_reverting : Addr} {oc_reverting kV_reverting dc_reverting pm_reverting cd_reverting ct_reverting : Value} {od_reverting an_reverting : Option Addr} {sl_reverting : Array (Option Value)}
    {f_Session_why_not_reverted : Addr} {oc_Session_why_not_reverted kV_Session_why_not_reverted dc_Session_why_not_reverted pm_Session_why_not_reverted cd_Session_why_not_reverted ct_Session_why_not_reverted : Value} {od_Session_why_not_reverted an_Session_why_not_reverted : Option Addr} {sl_Session_why_not_reverted : Array (Option Value)}
    {f_Session_revert : Addr} {oc_Session_revert kV_Session_revert dc_Session_revert pm_Session_revert cd_Session_revert ct_Session_revert : Value} {od_Session_revert an_Session_revert : Option Addr} {sl_Session_revert : Array (Option Value)}
    {f_Tree_visit : Addr} {oc_Tree_visit kV_Tree_visit dc_Tree_visit pm_Tree_visit cd_Tree_visit ct_Tree_visit : Value} {od_Tree_visit an_Tree_visit : Option Addr} {sl_Tree_visit : Array (Option Value)}
    {f_steps_of : Addr} {oc_steps_of kV_steps_of dc_steps_of pm_steps_of cd_steps_of ct_steps_of : Value} {od_steps_of an_steps_of : Option Addr} {sl_steps_of : Array (Option Value)}
    {f_Session_moved_to : Addr} {oc_Session_moved_to kV_Session_moved_to dc_Session_moved_to pm_Session_moved_to cd_Session_moved_to ct_Session_moved_to : Value} {od_Session_moved_to an_Session_moved_to : Option Addr} {sl_Session_moved_to : Array (Option Value)}
    {f_Session_moved_among : Addr} {oc_Session_moved_among kV_Session_moved_among dc_Session_moved_among pm_Session_moved_among cd_Session_moved_among ct_Session_moved_among : Value} {od_Session_moved_among an_Session_moved_among : Option Addr} {sl_Session_moved_among : Array (Option Value)}
    {f_Session_ago : Addr} {oc_Session_ago kV_Session_ago dc_Session_ago pm_Session_ago cd_Session_ago ct_Session_ago : Value} {od_Session_ago an_Session_ago : Option Addr} {sl_Session_ago : Array (Option Value)}
    {f_Session_later : Addr} {oc_Session_later kV_Session_later dc_Session_later pm_Session_later cd_Session_later ct_Session_later : Value} {od_Session_later an_Session_later : Option Addr} {sl_Session_later : Array (Option Value)}
    {f_Session_earlier : Addr} {oc_Session_earlier kV_Session_earlier dc_Session_earlier pm_Session_earlier cd_Session_earlier ct_Session_earlier : Value} {od_Session_earlier an_Session_earlier : Option Addr} {sl_Session_earlier : Array (Option Value)}
    {f_Session_go_to : Addr} {oc_Session_go_to kV_Session_go_to dc_Session_go_to pm_Session_go_to cd_Session_go_to ct_Session_go_to : Value} {od_Session_go_to an_Session_go_to : Option Addr} {sl_Session_go_to : Array (Option Value)}
    {f_Session_told_here : Addr} {oc_Session_told_here kV_Session_told_here dc_Session_told_here pm_Session_told_here cd_Session_told_here ct_Session_told_here : Value} {od_Session_told_here an_Session_told_here : Option Addr} {sl_Session_told_here : Array (Option Value)}
    {f_State_preferred : Addr} {oc_State_preferred kV_State_preferred dc_State_preferred pm_State_preferred cd_State_preferred ct_State_preferred : Value} {od_State_preferred an_State_preferred : Option Addr} {sl_State_preferred : Array (Option Value)}
    {f_Session_redo : Addr} {oc_Session_redo kV_Session_redo dc_Session_redo pm_Session_redo cd_Session_redo ct_Session_redo : Value} {od_Session_redo an_Session_redo : Option Addr} {sl_Session_redo : Array (Option Value)}
    {f_Session_undo : Addr} {oc_Session_undo kV_Session_undo dc_Session_undo pm_Session_undo cd_Session_undo ct_Session_undo : Value} {od_Session_undo an_Session_undo : Option Addr} {sl_Session_undo : Array (Option Value)}
    {f_Session_end_group : Addr} {oc_Session_end_group kV_Session_end_group dc_Session_end_group pm_Session_end_group cd_Session_end_group ct_Session_end_group : Value} {od_Session_end_group an_Session_end_group : Option Addr} {sl_Session_end_group : Array (Option Value)}
    {f_Session_begin_group : Addr} {oc_Session_begin_group kV_Session_begin_group dc_Session_begin_group pm_Session_begin_group cd_Session_begin_group ct_Session_begin_group : Value} {od_Session_begin_group an_Session_begin_group : Option Addr} {sl_Session_begin_group : Array (Option Value)}
    {f_moving : Addr} {oc_moving kV_moving dc_moving pm_moving cd_moving ct_moving : Value} {od_moving an_moving : Option Addr} {sl_moving : Array (Option Value)}
    {f_are_bytes : Addr} {oc_are_bytes kV_are_bytes dc_are_bytes pm_are_bytes cd_are_bytes ct_are_bytes : Value} {od_are_bytes an_are_bytes : Option Addr} {sl_are_bytes : Array (Option Value)}
    {f_Session_change : Addr} {oc_Session_change kV_Session_change dc_Session_change pm_Session_change cd_Session_change ct_Session_change : Value} {od_Session_change an_Session_change : Option Addr} {sl_Session_change : Array (Option Value)}
    {f_Session_wait : Addr} {oc_Session_wait kV_Session_wait dc_Session_wait pm_Session_wait cd_Session_wait ct_Session_wait : Value} {od_Session_wait an_Session_wait : Option Addr} {sl_Session_wait : Array (Option Value)}
    {f_Tree_init : Addr} {oc_Tree_init kV_Tree_init dc_Tree_init pm_Tree_init cd_Tree_init ct_Tree_init : Value} {od_Tree_init an_Tree_init : Option Addr} {sl_Tree_init : Array (Option Value)}
    {f_Session_start : Addr} {oc_Session_start kV_Session_start dc_Session_start pm_Session_start cd_Session_start ct_Session_start : Value} {od_Session_start an_Session_start : Option Addr} {sl_Session_start : Array (Option Value)}
    {f_answer : Addr} {oc_answer kV_answer dc_answer pm_answer cd_answer ct_answer : Value} {od_answer an_answer : Option Addr} {sl_answer : Array (Option Value)}
    {f_Session_init : Addr} {oc_Session_init kV_Session_init dc_Session_init pm_Session_init cd_Session_init ct_Session_init : Value} {od_Session_init an_Session_init : Option Addr} {sl_Session_init : Array (Option Value)}
    {f_answers : Addr} {oc_answers kV_answers dc_answers pm_answers cd_answers ct_answers : Value} {od_answers an_answers : Option Addr} {sl_answers : Array (Option Value)}
    (X : K.In h) (G : h.Ns mainGlobals mg) (hmg : mg "answers" = some (.ref fa))
    (e_ch : PySem.W.nsIn K mainGlobals "Change" = some (some (.ref a_ch)))
    (e_st : PySem.W.nsIn K mainGlobals "State" = some (some (.ref a_st)))
    (e_tr : PySem.W.nsIn K mainGlobals "Tree" = some (some (.ref a_tr)))
    (e_se : PySem.W.nsIn K mainGlobals "Session" = some (some (.ref a_se)))
    (pg_ch : PySem.W.plainGet K a_ch Str.empty = true)
    (hd_ch : PySem.W.hasDictIn K a_ch = true)
    (po_ch : PySem.W.plainOver K a_ch = true)
    (sa_ch : PySem.W.findIn K (.ref a_ch) "__setattr__" = some (some (.builtin "object.__setattr__")))
    (mk_ch : PySem.W.makesIn K a_ch = true)
    (kc_ch : PySem.W.keepIn K (.ref a_ch) = true)
    (pg_st : PySem.W.plainGet K a_st Str.empty = true)
    (hd_st : PySem.W.hasDictIn K a_st = true)
    (po_st : PySem.W.plainOver K a_st = true)
    (sa_st : PySem.W.findIn K (.ref a_st) "__setattr__" = some (some (.builtin "object.__setattr__")))
    (mk_st : PySem.W.makesIn K a_st = true)
    (kc_st : PySem.W.keepIn K (.ref a_st) = true)
    (pg_tr : PySem.W.plainGet K a_tr Str.empty = true)
    (hd_tr : PySem.W.hasDictIn K a_tr = true)
    (po_tr : PySem.W.plainOver K a_tr = true)
    (sa_tr : PySem.W.findIn K (.ref a_tr) "__setattr__" = some (some (.builtin "object.__setattr__")))
    (mk_tr : PySem.W.makesIn K a_tr = true)
    (kc_tr : PySem.W.keepIn K (.ref a_tr) = true)
    (pg_se : PySem.W.plainGet K a_se Str.empty = true)
    (hd_se : PySem.W.hasDictIn K a_se = true)
    (po_se : PySem.W.plainOver K a_se = true)
    (sa_se : PySem.W.findIn K (.ref a_se) "__setattr__" = some (some (.builtin "object.__setattr__")))
    (mk_se : PySem.W.makesIn K a_se = true)
    (kc_se : PySem.W.keepIn K (.ref a_se) = true)
    (nf_position : PySem.W.findIn K (.ref a_ch) "position" = some none)
    (nf_removed : PySem.W.findIn K (.ref a_ch) "removed" = some none)
    (nf_inserted : PySem.W.findIn K (.ref a_ch) "inserted" = some none)
    (nf_number : PySem.W.findIn K (.ref a_st) "number" = some none)
    (nf_parent : PySem.W.findIn K (.ref a_st) "parent" = some none)
    (nf_changes : PySem.W.findIn K (.ref a_st) "changes" = some none)
    (nf_text : PySem.W.findIn K (.ref a_st) "text" = some none)
    (nf_time : PySem.W.findIn K (.ref a_st) "time" = some none)
    (nf_is_kept : PySem.W.findIn K (.ref a_st) "is_kept" = some none)
    (nf_children : PySem.W.findIn K (.ref a_st) "children" = some none)
    (nf_visited : PySem.W.findIn K (.ref a_st) "visited" = some none)
    (nf_states : PySem.W.findIn K (.ref a_tr) "states" = some none)
    (nf_root : PySem.W.findIn K (.ref a_tr) "root" = some none)
    (nf_current : PySem.W.findIn K (.ref a_tr) "current" = some none)
    (nf_coming : PySem.W.findIn K (.ref a_tr) "coming" = some none)
    (nf_tree : PySem.W.findIn K (.ref a_se) "tree" = some none)
    (nf_clock : PySem.W.findIn K (.ref a_se) "clock" = some none)
    (nf_is_open : PySem.W.findIn K (.ref a_se) "is_open" = some none)
    (nf_grouped : PySem.W.findIn K (.ref a_se) "grouped" = some none)
    (nf_draft : PySem.W.findIn K (.ref a_se) "draft" = some none)
    (z_len : PySem.W.nsIn K mainGlobals "len" = some none)
    (z_sorted : PySem.W.nsIn K mainGlobals "sorted" = some none)
    (z_list : PySem.W.nsIn K mainGlobals "list" = some none)
    (z_zip : PySem.W.nsIn K mainGlobals "zip" = some none)
    (z_all : PySem.W.nsIn K mainGlobals "all" = some none)
    (z_int : PySem.W.nsIn K mainGlobals "int" = some none)
    (k_MOST_BYTES : PySem.W.nsIn K mainGlobals "MOST_BYTES" = some (some (.int 300 t_MOST_BYTES)))
    (k_GREATEST_BYTE : PySem.W.nsIn K mainGlobals "GREATEST_BYTE" = some (some (.int 255 t_GREATEST_BYTE)))
    (k_OVERLAPPED : PySem.W.nsIn K mainGlobals "OVERLAPPED" = some (some (.int (-1) t_OVERLAPPED)))
    (k_NOBODY : PySem.W.nsIn K mainGlobals "NOBODY" = some (some (.int (-1) t_NOBODY)))
    (k_OUT_OF_RANGE : PySem.W.nsIn K mainGlobals "OUT_OF_RANGE" = some (some (.int (-1) t_OUT_OF_RANGE)))
    (k_NO_STATE : PySem.W.nsIn K mainGlobals "NO_STATE" = some (some (.int (-2) t_NO_STATE)))
    (k_MANY_CHANGES : PySem.W.nsIn K mainGlobals "MANY_CHANGES" = some (some (.int (-4) t_MANY_CHANGES)))
    (k_LONG_REVERTED : PySem.W.nsIn K mainGlobals "LONG_REVERTED" = some (some (.int (-5) t_LONG_REVERTED)))
    (k_TOO_LONG : PySem.W.nsIn K mainGlobals "TOO_LONG" = some (some (.int (-6) t_TOO_LONG)))
    (k_NOT_ON_PATH : PySem.W.nsIn K mainGlobals "NOT_ON_PATH" = some (some (.int (-6) t_NOT_ON_PATH)))
    (k_NOWHERE : PySem.W.nsIn K mainGlobals "NOWHERE" = some (some (.int (-7) t_NOWHERE)))
    (k_OVERLAPS : PySem.W.nsIn K mainGlobals "OVERLAPS" = some (some (.int (-8) t_OVERLAPS)))
    (k_GROUP : PySem.W.nsIn K mainGlobals "GROUP" = some (some (.int (-9) t_GROUP)))
    (k_MOST_CLOCK : PySem.W.nsIn K mainGlobals "MOST_CLOCK" = some (some (.int 1000000 t_MOST_CLOCK)))
    (e_NUMBERS : PySem.W.nsIn K mainGlobals "NUMBERS" = some (some (.ref a_NUMBERS)))
    (l_NUMBERS : K.lookup a_NUMBERS = some o_NUMBERS)
    (q_NUMBERS : o_NUMBERS.cls = .type "tuple" ∧ ∃ its n, o_NUMBERS.data = .seq its n ∧ its.size ≤ sizeLine ∧ Vals (vInts [0, 1, 2, 0, 0, 0, 0, 1, 1, 1, 1, 0, 1, 0, 2, 0, 1, 2, 1, 1]) its.toList)
    (e_WITH_ROW : PySem.W.nsIn K mainGlobals "WITH_ROW" = some (some (.ref a_WITH_ROW)))
    (l_WITH_ROW : K.lookup a_WITH_ROW = some o_WITH_ROW)
    (q_WITH_ROW : o_WITH_ROW.cls = .type "tuple" ∧ ∃ its n, o_WITH_ROW.data = .seq its n ∧ its.size ≤ sizeLine ∧ Vals (vInts [0, 2]) its.toList)
    (a_call_at : PySem.W.nsIn K mainGlobals "call_at" = some (some (.ref f_call_at)))
    (l_call_at : K.lookup f_call_at = some ⟨oc_call_at, od_call_at, .func (PySem.W.fnOf "call_at" "call_at" (defArgs s_call_at) (defBody s_call_at) (defScope s_call_at) .none kV_call_at dc_call_at pm_call_at an_call_at cd_call_at ct_call_at), sl_call_at⟩)
    (c_call_at : PySem.W.codeIn K cd_call_at "call_at" = true)
    (k_call_at : PySem.W.keepIn K (.ref f_call_at) = true)
    (a_calls_in : PySem.W.nsIn K mainGlobals "calls_in" = some (some (.ref f_calls_in)))
    (l_calls_in : K.lookup f_calls_in = some ⟨oc_calls_in, od_calls_in, .func (PySem.W.fnOf "calls_in" "calls_in" (defArgs s_calls_in) (defBody s_calls_in) (defScope s_calls_in) .none kV_calls_in dc_calls_in pm_calls_in an_calls_in cd_calls_in ct_calls_in), sl_calls_in⟩)
    (c_calls_in : PySem.W.codeIn K cd_calls_in "calls_in" = true)
    (k_calls_in : PySem.W.keepIn K (.ref f_calls_in) = true)
    (a_Tree_state : PySem.W.findIn K (.ref a_tr) "state" = some (some (.ref f_Tree_state)))
    (i_Tree_state : PySem.W.isFn K (.ref f_Tree_state) = true)
    (l_Tree_state : K.lookup f_Tree_state = some ⟨oc_Tree_state, od_Tree_state, .func (PySem.W.fnOf "state" "Tree.state" (defArgs s_Tree_state) (defBody s_Tree_state) (defScope s_Tree_state) .none kV_Tree_state dc_Tree_state pm_Tree_state an_Tree_state cd_Tree_state ct_Tree_state), sl_Tree_state⟩)
    (c_Tree_state : PySem.W.codeIn K cd_Tree_state "Tree.state" = true)
    (k_Tree_state : PySem.W.keepIn K (.ref f_Tree_state) = true)
    (a_Tree_has : PySem.W.findIn K (.ref a_tr) "has" = some (some (.ref f_Tree_has)))
    (i_Tree_has : PySem.W.isFn K (.ref f_Tree_has) = true)
    (l_Tree_has : K.lookup f_Tree_has = some ⟨oc_Tree_has, od_Tree_has, .func (PySem.W.fnOf "has" "Tree.has" (defArgs s_Tree_has) (defBody s_Tree_has) (defScope s_Tree_has) .none kV_Tree_has dc_Tree_has pm_Tree_has an_Tree_has cd_Tree_has ct_Tree_has), sl_Tree_has⟩)
    (c_Tree_has : PySem.W.codeIn K cd_Tree_has "Tree.has" = true)
    (k_Tree_has : PySem.W.keepIn K (.ref f_Tree_has) = true)
    (a_Session_text_of : PySem.W.findIn K (.ref a_se) "text_of" = some (some (.ref f_Session_text_of)))
    (i_Session_text_of : PySem.W.isFn K (.ref f_Session_text_of) = true)
    (l_Session_text_of : K.lookup f_Session_text_of = some ⟨oc_Session_text_of, od_Session_text_of, .func (PySem.W.fnOf "text_of" "Session.text_of" (defArgs s_Session_text_of) (defBody s_Session_text_of) (defScope s_Session_text_of) .none kV_Session_text_of dc_Session_text_of pm_Session_text_of an_Session_text_of cd_Session_text_of ct_Session_text_of), sl_Session_text_of⟩)
    (c_Session_text_of : PySem.W.codeIn K cd_Session_text_of "Session.text_of" = true)
    (k_Session_text_of : PySem.W.keepIn K (.ref f_Session_text_of) = true)
    (a_Tree_way_to : PySem.W.findIn K (.ref a_tr) "way_to" = some (some (.ref f_Tree_way_to)))
    (i_Tree_way_to : PySem.W.isFn K (.ref f_Tree_way_to) = true)
    (l_Tree_way_to : K.lookup f_Tree_way_to = some ⟨oc_Tree_way_to, od_Tree_way_to, .func (PySem.W.fnOf "way_to" "Tree.way_to" (defArgs s_Tree_way_to) (defBody s_Tree_way_to) (defScope s_Tree_way_to) .none kV_Tree_way_to dc_Tree_way_to pm_Tree_way_to an_Tree_way_to cd_Tree_way_to ct_Tree_way_to), sl_Tree_way_to⟩)
    (c_Tree_way_to : PySem.W.codeIn K cd_Tree_way_to "Tree.way_to" = true)
    (k_Tree_way_to : PySem.W.keepIn K (.ref f_Tree_way_to) = true)
    (a_exchanged : PySem.W.nsIn K mainGlobals "exchanged" = some (some (.ref f_exchanged)))
    (l_exchanged : K.lookup f_exchanged = some ⟨oc_exchanged, od_exchanged, .func (PySem.W.fnOf "exchanged" "exchanged" (defArgs s_exchanged) (defBody s_exchanged) (defScope s_exchanged) .none kV_exchanged dc_exchanged pm_exchanged an_exchanged cd_exchanged ct_exchanged), sl_exchanged⟩)
    (c_exchanged : PySem.W.codeIn K cd_exchanged "exchanged" = true)
    (k_exchanged : PySem.W.keepIn K (.ref f_exchanged) = true)
    (a_origins_behind : PySem.W.nsIn K mainGlobals "origins_behind" = some (some (.ref f_origins_behind)))
    (l_origins_behind : K.lookup f_origins_behind = some ⟨oc_origins_behind, od_origins_behind, .func (PySem.W.fnOf "origins_behind" "origins_behind" (defArgs s_origins_behind) (defBody s_origins_behind) (defScope s_origins_behind) .none kV_origins_behind dc_origins_behind pm_origins_behind an_origins_behind cd_origins_behind ct_origins_behind), sl_origins_behind⟩)
    (c_origins_behind : PySem.W.codeIn K cd_origins_behind "origins_behind" = true)
    (k_origins_behind : PySem.W.keepIn K (.ref f_origins_behind) = true)
    (a_origins_of : PySem.W.nsIn K mainGlobals "origins_of" = some (some (.ref f_origins_of)))
    (l_origins_of : K.lookup f_origins_of = some ⟨oc_origins_of, od_origins_of, .func (PySem.W.fnOf "origins_of" "origins_of" (defArgs s_origins_of) (defBody s_origins_of) (defScope s_origins_of) .none kV_origins_of dc_origins_of pm_origins_of an_origins_of cd_origins_of ct_origins_of), sl_origins_of⟩)
    (c_origins_of : PySem.W.codeIn K cd_origins_of "origins_of" = true)
    (k_origins_of : PySem.W.keepIn K (.ref f_origins_of) = true)
    (a_Session_origins : PySem.W.findIn K (.ref a_se) "origins" = some (some (.ref f_Session_origins)))
    (i_Session_origins : PySem.W.isFn K (.ref f_Session_origins) = true)
    (l_Session_origins : K.lookup f_Session_origins = some ⟨oc_Session_origins, od_Session_origins, .func (PySem.W.fnOf "origins" "Session.origins" (defArgs s_Session_origins) (defBody s_Session_origins) (defScope s_Session_origins) .none kV_Session_origins dc_Session_origins pm_Session_origins an_Session_origins cd_Session_origins ct_Session_origins), sl_Session_origins⟩)
    (c_Session_origins : PySem.W.codeIn K cd_Session_origins "Session.origins" = true)
    (k_Session_origins : PySem.W.keepIn K (.ref f_Session_origins) = true)
    (a_shared : PySem.W.nsIn K mainGlobals "shared" = some (some (.ref f_shared)))
    (l_shared : K.lookup f_shared = some ⟨oc_shared, od_shared, .func (PySem.W.fnOf "shared" "shared" (defArgs s_shared) (defBody s_shared) (defScope s_shared) .none kV_shared dc_shared pm_shared an_shared cd_shared ct_shared), sl_shared⟩)
    (c_shared : PySem.W.codeIn K cd_shared "shared" = true)
    (k_shared : PySem.W.keepIn K (.ref f_shared) = true)
    (a_path_of : PySem.W.nsIn K mainGlobals "path_of" = some (some (.ref f_path_of)))
    (l_path_of : K.lookup f_path_of = some ⟨oc_path_of, od_path_of, .func (PySem.W.fnOf "path_of" "path_of" (defArgs s_path_of) (defBody s_path_of) (defScope s_path_of) .none kV_path_of dc_path_of pm_path_of an_path_of cd_path_of ct_path_of), sl_path_of⟩)
    (c_path_of : PySem.W.codeIn K cd_path_of "path_of" = true)
    (k_path_of : PySem.W.keepIn K (.ref f_path_of) = true)
    (a_Session_path : PySem.W.findIn K (.ref a_se) "path" = some (some (.ref f_Session_path)))
    (i_Session_path : PySem.W.isFn K (.ref f_Session_path) = true)
    (l_Session_path : K.lookup f_Session_path = some ⟨oc_Session_path, od_Session_path, .func (PySem.W.fnOf "path" "Session.path" (defArgs s_Session_path) (defBody s_Session_path) (defScope s_Session_path) .none kV_Session_path dc_Session_path pm_Session_path an_Session_path cd_Session_path ct_Session_path), sl_Session_path⟩)
    (c_Session_path : PySem.W.codeIn K cd_Session_path "Session.path" = true)
    (k_Session_path : PySem.W.keepIn K (.ref f_Session_path) = true)
    (a_Tree_numbers : PySem.W.findIn K (.ref a_tr) "numbers" = some (some (.ref f_Tree_numbers)))
    (i_Tree_numbers : PySem.W.isFn K (.ref f_Tree_numbers) = true)
    (l_Tree_numbers : K.lookup f_Tree_numbers = some ⟨oc_Tree_numbers, od_Tree_numbers, .func (PySem.W.fnOf "numbers" "Tree.numbers" (defArgs s_Tree_numbers) (defBody s_Tree_numbers) (defScope s_Tree_numbers) .none kV_Tree_numbers dc_Tree_numbers pm_Tree_numbers an_Tree_numbers cd_Tree_numbers ct_Tree_numbers), sl_Tree_numbers⟩)
    (c_Tree_numbers : PySem.W.codeIn K cd_Tree_numbers "Tree.numbers" = true)
    (k_Tree_numbers : PySem.W.keepIn K (.ref f_Tree_numbers) = true)
    (a_Session_leaves : PySem.W.findIn K (.ref a_se) "leaves" = some (some (.ref f_Session_leaves)))
    (i_Session_leaves : PySem.W.isFn K (.ref f_Session_leaves) = true)
    (l_Session_leaves : K.lookup f_Session_leaves = some ⟨oc_Session_leaves, od_Session_leaves, .func (PySem.W.fnOf "leaves" "Session.leaves" (defArgs s_Session_leaves) (defBody s_Session_leaves) (defScope s_Session_leaves) .none kV_Session_leaves dc_Session_leaves pm_Session_leaves an_Session_leaves cd_Session_leaves ct_Session_leaves), sl_Session_leaves⟩)
    (c_Session_leaves : PySem.W.codeIn K cd_Session_leaves "Session.leaves" = true)
    (k_Session_leaves : PySem.W.keepIn K (.ref f_Session_leaves) = true)
    (a_Session_state_info : PySem.W.findIn K (.ref a_se) "state_info" = some (some (.ref f_Session_state_info)))
    (i_Session_state_info : PySem.W.isFn K (.ref f_Session_state_info) = true)
    (l_Session_state_info : K.lookup f_Session_state_info = some ⟨oc_Session_state_info, od_Session_state_info, .func (PySem.W.fnOf "state_info" "Session.state_info" (defArgs s_Session_state_info) (defBody s_Session_state_info) (defScope s_Session_state_info) .none kV_Session_state_info dc_Session_state_info pm_Session_state_info an_Session_state_info cd_Session_state_info ct_Session_state_info), sl_Session_state_info⟩)
    (c_Session_state_info : PySem.W.codeIn K cd_Session_state_info "Session.state_info" = true)
    (k_Session_state_info : PySem.W.keepIn K (.ref f_Session_state_info) = true)
    (a_Tree_here : PySem.W.findIn K (.ref a_tr) "here" = some (some (.ref f_Tree_here)))
    (i_Tree_here : PySem.W.isFn K (.ref f_Tree_here) = true)
    (l_Tree_here : K.lookup f_Tree_here = some ⟨oc_Tree_here, od_Tree_here, .func (PySem.W.fnOf "here" "Tree.here" (defArgs s_Tree_here) (defBody s_Tree_here) (defScope s_Tree_here) .none kV_Tree_here dc_Tree_here pm_Tree_here an_Tree_here cd_Tree_here ct_Tree_here), sl_Tree_here⟩)
    (c_Tree_here : PySem.W.codeIn K cd_Tree_here "Tree.here" = true)
    (k_Tree_here : PySem.W.keepIn K (.ref f_Tree_here) = true)
    (a_Session_text_now : PySem.W.findIn K (.ref a_se) "text_now" = some (some (.ref f_Session_text_now)))
    (i_Session_text_now : PySem.W.isFn K (.ref f_Session_text_now) = true)
    (l_Session_text_now : K.lookup f_Session_text_now = some ⟨oc_Session_text_now, od_Session_text_now, .func (PySem.W.fnOf "text_now" "Session.text_now" (defArgs s_Session_text_now) (defBody s_Session_text_now) (defScope s_Session_text_now) .none kV_Session_text_now dc_Session_text_now pm_Session_text_now an_Session_text_now cd_Session_text_now ct_Session_text_now), sl_Session_text_now⟩)
    (c_Session_text_now : PySem.W.codeIn K cd_Session_text_now "Session.text_now" = true)
    (k_Session_text_now : PySem.W.keepIn K (.ref f_Session_text_now) = true)
    (a_Session_get_text : PySem.W.findIn K (.ref a_se) "get_text" = some (some (.ref f_Session_get_text)))
    (i_Session_get_text : PySem.W.isFn K (.ref f_Session_get_text) = true)
    (l_Session_get_text : K.lookup f_Session_get_text = some ⟨oc_Session_get_text, od_Session_get_text, .func (PySem.W.fnOf "get_text" "Session.get_text" (defArgs s_Session_get_text) (defBody s_Session_get_text) (defScope s_Session_get_text) .none kV_Session_get_text dc_Session_get_text pm_Session_get_text an_Session_get_text cd_Session_get_text ct_Session_get_text), sl_Session_get_text⟩)
    (c_Session_get_text : PySem.W.codeIn K cd_Session_get_text "Session.get_text" = true)
    (k_Session_get_text : PySem.W.keepIn K (.ref f_Session_get_text) = true)
    (a_telling : PySem.W.nsIn K mainGlobals "telling" = some (some (.ref f_telling)))
    (l_telling : K.lookup f_telling = some ⟨oc_telling, od_telling, .func (PySem.W.fnOf "telling" "telling" (defArgs s_telling) (defBody s_telling) (defScope s_telling) .none kV_telling dc_telling pm_telling an_telling cd_telling ct_telling), sl_telling⟩)
    (c_telling : PySem.W.codeIn K cd_telling "telling" = true)
    (k_telling : PySem.W.keepIn K (.ref f_telling) = true)
    (a_may_root_go : PySem.W.nsIn K mainGlobals "may_root_go" = some (some (.ref f_may_root_go)))
    (l_may_root_go : K.lookup f_may_root_go = some ⟨oc_may_root_go, od_may_root_go, .func (PySem.W.fnOf "may_root_go" "may_root_go" (defArgs s_may_root_go) (defBody s_may_root_go) (defScope s_may_root_go) .none kV_may_root_go dc_may_root_go pm_may_root_go an_may_root_go cd_may_root_go ct_may_root_go), sl_may_root_go⟩)
    (c_may_root_go : PySem.W.codeIn K cd_may_root_go "may_root_go" = true)
    (k_may_root_go : PySem.W.keepIn K (.ref f_may_root_go) = true)
    (a_Tree_take_root_away : PySem.W.findIn K (.ref a_tr) "take_root_away" = some (some (.ref f_Tree_take_root_away)))
    (i_Tree_take_root_away : PySem.W.isFn K (.ref f_Tree_take_root_away) = true)
    (l_Tree_take_root_away : K.lookup f_Tree_take_root_away = some ⟨oc_Tree_take_root_away, od_Tree_take_root_away, .func (PySem.W.fnOf "take_root_away" "Tree.take_root_away" (defArgs s_Tree_take_root_away) (defBody s_Tree_take_root_away) (defScope s_Tree_take_root_away) .none kV_Tree_take_root_away dc_Tree_take_root_away pm_Tree_take_root_away an_Tree_take_root_away cd_Tree_take_root_away ct_Tree_take_root_away), sl_Tree_take_root_away⟩)
    (c_Tree_take_root_away : PySem.W.codeIn K cd_Tree_take_root_away "Tree.take_root_away" = true)
    (k_Tree_take_root_away : PySem.W.keepIn K (.ref f_Tree_take_root_away) = true)
    (a_without_roots : PySem.W.nsIn K mainGlobals "without_roots" = some (some (.ref f_without_roots)))
    (l_without_roots : K.lookup f_without_roots = some ⟨oc_without_roots, od_without_roots, .func (PySem.W.fnOf "without_roots" "without_roots" (defArgs s_without_roots) (defBody s_without_roots) (defScope s_without_roots) .none kV_without_roots dc_without_roots pm_without_roots an_without_roots cd_without_roots ct_without_roots), sl_without_roots⟩)
    (c_without_roots : PySem.W.codeIn K cd_without_roots "without_roots" = true)
    (k_without_roots : PySem.W.keepIn K (.ref f_without_roots) = true)
    (a_may_go : PySem.W.nsIn K mainGlobals "may_go" = some (some (.ref f_may_go)))
    (l_may_go : K.lookup f_may_go = some ⟨oc_may_go, od_may_go, .func (PySem.W.fnOf "may_go" "may_go" (defArgs s_may_go) (defBody s_may_go) (defScope s_may_go) .none kV_may_go dc_may_go pm_may_go an_may_go cd_may_go ct_may_go), sl_may_go⟩)
    (c_may_go : PySem.W.codeIn K cd_may_go "may_go" = true)
    (k_may_go : PySem.W.keepIn K (.ref f_may_go) = true)
    (a_leaves_to_go : PySem.W.nsIn K mainGlobals "leaves_to_go" = some (some (.ref f_leaves_to_go)))
    (l_leaves_to_go : K.lookup f_leaves_to_go = some ⟨oc_leaves_to_go, od_leaves_to_go, .func (PySem.W.fnOf "leaves_to_go" "leaves_to_go" (defArgs s_leaves_to_go) (defBody s_leaves_to_go) (defScope s_leaves_to_go) .none kV_leaves_to_go dc_leaves_to_go pm_leaves_to_go an_leaves_to_go cd_leaves_to_go ct_leaves_to_go), sl_leaves_to_go⟩)
    (c_leaves_to_go : PySem.W.codeIn K cd_leaves_to_go "leaves_to_go" = true)
    (k_leaves_to_go : PySem.W.keepIn K (.ref f_leaves_to_go) = true)
    (a_Tree_take_away : PySem.W.findIn K (.ref a_tr) "take_away" = some (some (.ref f_Tree_take_away)))
    (i_Tree_take_away : PySem.W.isFn K (.ref f_Tree_take_away) = true)
    (l_Tree_take_away : K.lookup f_Tree_take_away = some ⟨oc_Tree_take_away, od_Tree_take_away, .func (PySem.W.fnOf "take_away" "Tree.take_away" (defArgs s_Tree_take_away) (defBody s_Tree_take_away) (defScope s_Tree_take_away) .none kV_Tree_take_away dc_Tree_take_away pm_Tree_take_away an_Tree_take_away cd_Tree_take_away ct_Tree_take_away), sl_Tree_take_away⟩)
    (c_Tree_take_away : PySem.W.codeIn K cd_Tree_take_away "Tree.take_away" = true)
    (k_Tree_take_away : PySem.W.keepIn K (.ref f_Tree_take_away) = true)
    (a_without_leaves : PySem.W.nsIn K mainGlobals "without_leaves" = some (some (.ref f_without_leaves)))
    (l_without_leaves : K.lookup f_without_leaves = some ⟨oc_without_leaves, od_without_leaves, .func (PySem.W.fnOf "without_leaves" "without_leaves" (defArgs s_without_leaves) (defBody s_without_leaves) (defScope s_without_leaves) .none kV_without_leaves dc_without_leaves pm_without_leaves an_without_leaves cd_without_leaves ct_without_leaves), sl_without_leaves⟩)
    (c_without_leaves : PySem.W.codeIn K cd_without_leaves "without_leaves" = true)
    (k_without_leaves : PySem.W.keepIn K (.ref f_without_leaves) = true)
    (a_forget : PySem.W.nsIn K mainGlobals "forget" = some (some (.ref f_forget)))
    (l_forget : K.lookup f_forget = some ⟨oc_forget, od_forget, .func (PySem.W.fnOf "forget" "forget" (defArgs s_forget) (defBody s_forget) (defScope s_forget) .none kV_forget dc_forget pm_forget an_forget cd_forget ct_forget), sl_forget⟩)
    (c_forget : PySem.W.codeIn K cd_forget "forget" = true)
    (k_forget : PySem.W.keepIn K (.ref f_forget) = true)
    (a_Session_forgotten : PySem.W.findIn K (.ref a_se) "forgotten" = some (some (.ref f_Session_forgotten)))
    (i_Session_forgotten : PySem.W.isFn K (.ref f_Session_forgotten) = true)
    (l_Session_forgotten : K.lookup f_Session_forgotten = some ⟨oc_Session_forgotten, od_Session_forgotten, .func (PySem.W.fnOf "forgotten" "Session.forgotten" (defArgs s_Session_forgotten) (defBody s_Session_forgotten) (defScope s_Session_forgotten) .none kV_Session_forgotten dc_Session_forgotten pm_Session_forgotten an_Session_forgotten cd_Session_forgotten ct_Session_forgotten), sl_Session_forgotten⟩)
    (c_Session_forgotten : PySem.W.codeIn K cd_Session_forgotten "Session.forgotten" = true)
    (k_Session_forgotten : PySem.W.keepIn K (.ref f_Session_forgotten) = true)
    (a_Session_keep : PySem.W.findIn K (.ref a_se) "keep" = some (some (.ref f_Session_keep)))
    (i_Session_keep : PySem.W.isFn K (.ref f_Session_keep) = true)
    (l_Session_keep : K.lookup f_Session_keep = some ⟨oc_Session_keep, od_Session_keep, .func (PySem.W.fnOf "keep" "Session.keep" (defArgs s_Session_keep) (defBody s_Session_keep) (defScope s_Session_keep) .none kV_Session_keep dc_Session_keep pm_Session_keep an_Session_keep cd_Session_keep ct_Session_keep), sl_Session_keep⟩)
    (c_Session_keep : PySem.W.codeIn K cd_Session_keep "Session.keep" = true)
    (k_Session_keep : PySem.W.keepIn K (.ref f_Session_keep) = true)
    (a_State_init : PySem.W.findIn K (.ref a_st) "__init__" = some (some (.ref f_State_init)))
    (i_State_init : PySem.W.isFn K (.ref f_State_init) = true)
    (l_State_init : K.lookup f_State_init = some ⟨oc_State_init, od_State_init, .func (PySem.W.fnOf "__init__" "State.__init__" (defArgs s_State_init) (defBody s_State_init) (defScope s_State_init) .none kV_State_init dc_State_init pm_State_init an_State_init cd_State_init ct_State_init), sl_State_init⟩)
    (c_State_init : PySem.W.codeIn K cd_State_init "State.__init__" = true)
    (k_State_init : PySem.W.keepIn K (.ref f_State_init) = true)
    (a_Tree_create : PySem.W.findIn K (.ref a_tr) "create" = some (some (.ref f_Tree_create)))
    (i_Tree_create : PySem.W.isFn K (.ref f_Tree_create) = true)
    (l_Tree_create : K.lookup f_Tree_create = some ⟨oc_Tree_create, od_Tree_create, .func (PySem.W.fnOf "create" "Tree.create" (defArgs s_Tree_create) (defBody s_Tree_create) (defScope s_Tree_create) .none kV_Tree_create dc_Tree_create pm_Tree_create an_Tree_create cd_Tree_create ct_Tree_create), sl_Tree_create⟩)
    (c_Tree_create : PySem.W.codeIn K cd_Tree_create "Tree.create" = true)
    (k_Tree_create : PySem.W.keepIn K (.ref f_Tree_create) = true)
    (a_changed : PySem.W.nsIn K mainGlobals "changed" = some (some (.ref f_changed)))
    (l_changed : K.lookup f_changed = some ⟨oc_changed, od_changed, .func (PySem.W.fnOf "changed" "changed" (defArgs s_changed) (defBody s_changed) (defScope s_changed) .none kV_changed dc_changed pm_changed an_changed cd_changed ct_changed), sl_changed⟩)
    (c_changed : PySem.W.codeIn K cd_changed "changed" = true)
    (k_changed : PySem.W.keepIn K (.ref f_changed) = true)
    (a_Change_init : PySem.W.findIn K (.ref a_ch) "__init__" = some (some (.ref f_Change_init)))
    (i_Change_init : PySem.W.isFn K (.ref f_Change_init) = true)
    (l_Change_init : K.lookup f_Change_init = some ⟨oc_Change_init, od_Change_init, .func (PySem.W.fnOf "__init__" "Change.__init__" (defArgs s_Change_init) (defBody s_Change_init) (defScope s_Change_init) .none kV_Change_init dc_Change_init pm_Change_init an_Change_init cd_Change_init ct_Change_init), sl_Change_init⟩)
    (c_Change_init : PySem.W.codeIn K cd_Change_init "Change.__init__" = true)
    (k_Change_init : PySem.W.keepIn K (.ref f_Change_init) = true)
    (a_removed_bytes : PySem.W.nsIn K mainGlobals "removed_bytes" = some (some (.ref f_removed_bytes)))
    (l_removed_bytes : K.lookup f_removed_bytes = some ⟨oc_removed_bytes, od_removed_bytes, .func (PySem.W.fnOf "removed_bytes" "removed_bytes" (defArgs s_removed_bytes) (defBody s_removed_bytes) (defScope s_removed_bytes) .none kV_removed_bytes dc_removed_bytes pm_removed_bytes an_removed_bytes cd_removed_bytes ct_removed_bytes), sl_removed_bytes⟩)
    (c_removed_bytes : PySem.W.codeIn K cd_removed_bytes "removed_bytes" = true)
    (k_removed_bytes : PySem.W.keepIn K (.ref f_removed_bytes) = true)
    (a_start_behind : PySem.W.nsIn K mainGlobals "start_behind" = some (some (.ref f_start_behind)))
    (l_start_behind : K.lookup f_start_behind = some ⟨oc_start_behind, od_start_behind, .func (PySem.W.fnOf "start_behind" "start_behind" (defArgs s_start_behind) (defBody s_start_behind) (defScope s_start_behind) .none kV_start_behind dc_start_behind pm_start_behind an_start_behind cd_start_behind ct_start_behind), sl_start_behind⟩)
    (c_start_behind : PySem.W.codeIn K cd_start_behind "start_behind" = true)
    (k_start_behind : PySem.W.keepIn K (.ref f_start_behind) = true)
    (a_start_behind_all : PySem.W.nsIn K mainGlobals "start_behind_all" = some (some (.ref f_start_behind_all)))
    (l_start_behind_all : K.lookup f_start_behind_all = some ⟨oc_start_behind_all, od_start_behind_all, .func (PySem.W.fnOf "start_behind_all" "start_behind_all" (defArgs s_start_behind_all) (defBody s_start_behind_all) (defScope s_start_behind_all) .none kV_start_behind_all dc_start_behind_all pm_start_behind_all an_start_behind_all cd_start_behind_all ct_start_behind_all), sl_start_behind_all⟩)
    (c_start_behind_all : PySem.W.codeIn K cd_start_behind_all "start_behind_all" = true)
    (k_start_behind_all : PySem.W.keepIn K (.ref f_start_behind_all) = true)
    (a_changes_behind : PySem.W.nsIn K mainGlobals "changes_behind" = some (some (.ref f_changes_behind)))
    (l_changes_behind : K.lookup f_changes_behind = some ⟨oc_changes_behind, od_changes_behind, .func (PySem.W.fnOf "changes_behind" "changes_behind" (defArgs s_changes_behind) (defBody s_changes_behind) (defScope s_changes_behind) .none kV_changes_behind dc_changes_behind pm_changes_behind an_changes_behind cd_changes_behind ct_changes_behind), sl_changes_behind⟩)
    (c_changes_behind : PySem.W.codeIn K cd_changes_behind "changes_behind" = true)
    (k_changes_behind : PySem.W.keepIn K (.ref f_changes_behind) = true)
    (a_reverting : PySem.W.nsIn K mainGlobals "reverting" = some (some (.ref f_reverting)))
    (l_reverting : K.lookup f_reverting = some ⟨oc_reverting, od_reverting, .func (PySem.W.fnOf "reverting" "reverting" (defArgs s_reverting) (defBody s_reverting) (defScope s_reverting) .none kV_reverting dc_reverting pm_reverting an_reverting cd_reverting ct_reverting), sl_reverting⟩)
    (c_reverting : PySem.W.codeIn K cd_reverting "reverting" = true)
    (k_reverting : PySem.W.keepIn K (.ref f_reverting) = true)
    (a_Session_why_not_reverted : PySem.W.findIn K (.ref a_se) "why_not_reverted" = some (some (.ref f_Session_why_not_reverted)))
    (i_Session_why_not_reverted : PySem.W.isFn K (.ref f_Session_why_not_reverted) = true)
    (l_Session_why_not_reverted : K.lookup f_Session_why_not_reverted = some ⟨oc_Session_why_not_reverted, od_Session_why_not_reverted, .func (PySem.W.fnOf "why_not_reverted" "Session.why_not_reverted" (defArgs s_Session_why_not_reverted) (defBody s_Session_why_not_reverted) (defScope s_Session_why_not_reverted) .none kV_Session_why_not_reverted dc_Session_why_not_reverted pm_Session_why_not_reverted an_Session_why_not_reverted cd_Session_why_not_reverted ct_Session_why_not_reverted), sl_Session_why_not_reverted⟩)
    (c_Session_why_not_reverted : PySem.W.codeIn K cd_Session_why_not_reverted "Session.why_not_reverted" = true)
    (k_Session_why_not_reverted : PySem.W.keepIn K (.ref f_Session_why_not_reverted) = true)
    (a_Session_revert : PySem.W.findIn K (.ref a_se) "revert" = some (some (.ref f_Session_revert)))
    (i_Session_revert : PySem.W.isFn K (.ref f_Session_revert) = true)
    (l_Session_revert : K.lookup f_Session_revert = some ⟨oc_Session_revert, od_Session_revert, .func (PySem.W.fnOf "revert" "Session.revert" (defArgs s_Session_revert) (defBody s_Session_revert) (defScope s_Session_revert) .none kV_Session_revert dc_Session_revert pm_Session_revert an_Session_revert cd_Session_revert ct_Session_revert), sl_Session_revert⟩)
    (c_Session_revert : PySem.W.codeIn K cd_Session_revert "Session.revert" = true)
    (k_Session_revert : PySem.W.keepIn K (.ref f_Session_revert) = true)
    (a_Tree_visit : PySem.W.findIn K (.ref a_tr) "visit" = some (some (.ref f_Tree_visit)))
    (i_Tree_visit : PySem.W.isFn K (.ref f_Tree_visit) = true)
    (l_Tree_visit : K.lookup f_Tree_visit = some ⟨oc_Tree_visit, od_Tree_visit, .func (PySem.W.fnOf "visit" "Tree.visit" (defArgs s_Tree_visit) (defBody s_Tree_visit) (defScope s_Tree_visit) .none kV_Tree_visit dc_Tree_visit pm_Tree_visit an_Tree_visit cd_Tree_visit ct_Tree_visit), sl_Tree_visit⟩)
    (c_Tree_visit : PySem.W.codeIn K cd_Tree_visit "Tree.visit" = true)
    (k_Tree_visit : PySem.W.keepIn K (.ref f_Tree_visit) = true)
    (a_steps_of : PySem.W.nsIn K mainGlobals "steps_of" = some (some (.ref f_steps_of)))
    (l_steps_of : K.lookup f_steps_of = some ⟨oc_steps_of, od_steps_of, .func (PySem.W.fnOf "steps_of" "steps_of" (defArgs s_steps_of) (defBody s_steps_of) (defScope s_steps_of) .none kV_steps_of dc_steps_of pm_steps_of an_steps_of cd_steps_of ct_steps_of), sl_steps_of⟩)
    (c_steps_of : PySem.W.codeIn K cd_steps_of "steps_of" = true)
    (k_steps_of : PySem.W.keepIn K (.ref f_steps_of) = true)
    (a_Session_moved_to : PySem.W.findIn K (.ref a_se) "moved_to" = some (some (.ref f_Session_moved_to)))
    (i_Session_moved_to : PySem.W.isFn K (.ref f_Session_moved_to) = true)
    (l_Session_moved_to : K.lookup f_Session_moved_to = some ⟨oc_Session_moved_to, od_Session_moved_to, .func (PySem.W.fnOf "moved_to" "Session.moved_to" (defArgs s_Session_moved_to) (defBody s_Session_moved_to) (defScope s_Session_moved_to) .none kV_Session_moved_to dc_Session_moved_to pm_Session_moved_to an_Session_moved_to cd_Session_moved_to ct_Session_moved_to), sl_Session_moved_to⟩)
    (c_Session_moved_to : PySem.W.codeIn K cd_Session_moved_to "Session.moved_to" = true)
    (k_Session_moved_to : PySem.W.keepIn K (.ref f_Session_moved_to) = true)
    (a_Session_moved_among : PySem.W.findIn K (.ref a_se) "moved_among" = some (some (.ref f_Session_moved_among)))
    (i_Session_moved_among : PySem.W.isFn K (.ref f_Session_moved_among) = true)
    (l_Session_moved_among : K.lookup f_Session_moved_among = some ⟨oc_Session_moved_among, od_Session_moved_among, .func (PySem.W.fnOf "moved_among" "Session.moved_among" (defArgs s_Session_moved_among) (defBody s_Session_moved_among) (defScope s_Session_moved_among) .none kV_Session_moved_among dc_Session_moved_among pm_Session_moved_among an_Session_moved_among cd_Session_moved_among ct_Session_moved_among), sl_Session_moved_among⟩)
    (c_Session_moved_among : PySem.W.codeIn K cd_Session_moved_among "Session.moved_among" = true)
    (k_Session_moved_among : PySem.W.keepIn K (.ref f_Session_moved_among) = true)
    (a_Session_ago : PySem.W.findIn K (.ref a_se) "ago" = some (some (.ref f_Session_ago)))
    (i_Session_ago : PySem.W.isFn K (.ref f_Session_ago) = true)
    (l_Session_ago : K.lookup f_Session_ago = some ⟨oc_Session_ago, od_Session_ago, .func (PySem.W.fnOf "ago" "Session.ago" (defArgs s_Session_ago) (defBody s_Session_ago) (defScope s_Session_ago) .none kV_Session_ago dc_Session_ago pm_Session_ago an_Session_ago cd_Session_ago ct_Session_ago), sl_Session_ago⟩)
    (c_Session_ago : PySem.W.codeIn K cd_Session_ago "Session.ago" = true)
    (k_Session_ago : PySem.W.keepIn K (.ref f_Session_ago) = true)
    (a_Session_later : PySem.W.findIn K (.ref a_se) "later" = some (some (.ref f_Session_later)))
    (i_Session_later : PySem.W.isFn K (.ref f_Session_later) = true)
    (l_Session_later : K.lookup f_Session_later = some ⟨oc_Session_later, od_Session_later, .func (PySem.W.fnOf "later" "Session.later" (defArgs s_Session_later) (defBody s_Session_later) (defScope s_Session_later) .none kV_Session_later dc_Session_later pm_Session_later an_Session_later cd_Session_later ct_Session_later), sl_Session_later⟩)
    (c_Session_later : PySem.W.codeIn K cd_Session_later "Session.later" = true)
    (k_Session_later : PySem.W.keepIn K (.ref f_Session_later) = true)
    (a_Session_earlier : PySem.W.findIn K (.ref a_se) "earlier" = some (some (.ref f_Session_earlier)))
    (i_Session_earlier : PySem.W.isFn K (.ref f_Session_earlier) = true)
    (l_Session_earlier : K.lookup f_Session_earlier = some ⟨oc_Session_earlier, od_Session_earlier, .func (PySem.W.fnOf "earlier" "Session.earlier" (defArgs s_Session_earlier) (defBody s_Session_earlier) (defScope s_Session_earlier) .none kV_Session_earlier dc_Session_earlier pm_Session_earlier an_Session_earlier cd_Session_earlier ct_Session_earlier), sl_Session_earlier⟩)
    (c_Session_earlier : PySem.W.codeIn K cd_Session_earlier "Session.earlier" = true)
    (k_Session_earlier : PySem.W.keepIn K (.ref f_Session_earlier) = true)
    (a_Session_go_to : PySem.W.findIn K (.ref a_se) "go_to" = some (some (.ref f_Session_go_to)))
    (i_Session_go_to : PySem.W.isFn K (.ref f_Session_go_to) = true)
    (l_Session_go_to : K.lookup f_Session_go_to = some ⟨oc_Session_go_to, od_Session_go_to, .func (PySem.W.fnOf "go_to" "Session.go_to" (defArgs s_Session_go_to) (defBody s_Session_go_to) (defScope s_Session_go_to) .none kV_Session_go_to dc_Session_go_to pm_Session_go_to an_Session_go_to cd_Session_go_to ct_Session_go_to), sl_Session_go_to⟩)
    (c_Session_go_to : PySem.W.codeIn K cd_Session_go_to "Session.go_to" = true)
    (k_Session_go_to : PySem.W.keepIn K (.ref f_Session_go_to) = true)
    (a_Session_told_here : PySem.W.findIn K (.ref a_se) "told_here" = some (some (.ref f_Session_told_here)))
    (i_Session_told_here : PySem.W.isFn K (.ref f_Session_told_here) = true)
    (l_Session_told_here : K.lookup f_Session_told_here = some ⟨oc_Session_told_here, od_Session_told_here, .func (PySem.W.fnOf "told_here" "Session.told_here" (defArgs s_Session_told_here) (defBody s_Session_told_here) (defScope s_Session_told_here) .none kV_Session_told_here dc_Session_told_here pm_Session_told_here an_Session_told_here cd_Session_told_here ct_Session_told_here), sl_Session_told_here⟩)
    (c_Session_told_here : PySem.W.codeIn K cd_Session_told_here "Session.told_here" = true)
    (k_Session_told_here : PySem.W.keepIn K (.ref f_Session_told_here) = true)
    (a_State_preferred : PySem.W.findIn K (.ref a_st) "preferred" = some (some (.ref f_State_preferred)))
    (i_State_preferred : PySem.W.isFn K (.ref f_State_preferred) = true)
    (l_State_preferred : K.lookup f_State_preferred = some ⟨oc_State_preferred, od_State_preferred, .func (PySem.W.fnOf "preferred" "State.preferred" (defArgs s_State_preferred) (defBody s_State_preferred) (defScope s_State_preferred) .none kV_State_preferred dc_State_preferred pm_State_preferred an_State_preferred cd_State_preferred ct_State_preferred), sl_State_preferred⟩)
    (c_State_preferred : PySem.W.codeIn K cd_State_preferred "State.preferred" = true)
    (k_State_preferred : PySem.W.keepIn K (.ref f_State_preferred) = true)
    (a_Session_redo : PySem.W.findIn K (.ref a_se) "redo" = some (some (.ref f_Session_redo)))
    (i_Session_redo : PySem.W.isFn K (.ref f_Session_redo) = true)
    (l_Session_redo : K.lookup f_Session_redo = some ⟨oc_Session_redo, od_Session_redo, .func (PySem.W.fnOf "redo" "Session.redo" (defArgs s_Session_redo) (defBody s_Session_redo) (defScope s_Session_redo) .none kV_Session_redo dc_Session_redo pm_Session_redo an_Session_redo cd_Session_redo ct_Session_redo), sl_Session_redo⟩)
    (c_Session_redo : PySem.W.codeIn K cd_Session_redo "Session.redo" = true)
    (k_Session_redo : PySem.W.keepIn K (.ref f_Session_redo) = true)
    (a_Session_undo : PySem.W.findIn K (.ref a_se) "undo" = some (some (.ref f_Session_undo)))
    (i_Session_undo : PySem.W.isFn K (.ref f_Session_undo) = true)
    (l_Session_undo : K.lookup f_Session_undo = some ⟨oc_Session_undo, od_Session_undo, .func (PySem.W.fnOf "undo" "Session.undo" (defArgs s_Session_undo) (defBody s_Session_undo) (defScope s_Session_undo) .none kV_Session_undo dc_Session_undo pm_Session_undo an_Session_undo cd_Session_undo ct_Session_undo), sl_Session_undo⟩)
    (c_Session_undo : PySem.W.codeIn K cd_Session_undo "Session.undo" = true)
    (k_Session_undo : PySem.W.keepIn K (.ref f_Session_undo) = true)
    (a_Session_end_group : PySem.W.findIn K (.ref a_se) "end_group" = some (some (.ref f_Session_end_group)))
    (i_Session_end_group : PySem.W.isFn K (.ref f_Session_end_group) = true)
    (l_Session_end_group : K.lookup f_Session_end_group = some ⟨oc_Session_end_group, od_Session_end_group, .func (PySem.W.fnOf "end_group" "Session.end_group" (defArgs s_Session_end_group) (defBody s_Session_end_group) (defScope s_Session_end_group) .none kV_Session_end_group dc_Session_end_group pm_Session_end_group an_Session_end_group cd_Session_end_group ct_Session_end_group), sl_Session_end_group⟩)
    (c_Session_end_group : PySem.W.codeIn K cd_Session_end_group "Session.end_group" = true)
    (k_Session_end_group : PySem.W.keepIn K (.ref f_Session_end_group) = true)
    (a_Session_begin_group : PySem.W.findIn K (.ref a_se) "begin_group" = some (some (.ref f_Session_begin_group)))
    (i_Session_begin_group : PySem.W.isFn K (.ref f_Session_begin_group) = true)
    (l_Session_begin_group : K.lookup f_Session_begin_group = some ⟨oc_Session_begin_group, od_Session_begin_group, .func (PySem.W.fnOf "begin_group" "Session.begin_group" (defArgs s_Session_begin_group) (defBody s_Session_begin_group) (defScope s_Session_begin_group) .none kV_Session_begin_group dc_Session_begin_group pm_Session_begin_group an_Session_begin_group cd_Session_begin_group ct_Session_begin_group), sl_Session_begin_group⟩)
    (c_Session_begin_group : PySem.W.codeIn K cd_Session_begin_group "Session.begin_group" = true)
    (k_Session_begin_group : PySem.W.keepIn K (.ref f_Session_begin_group) = true)
    (a_moving : PySem.W.nsIn K mainGlobals "moving" = some (some (.ref f_moving)))
    (l_moving : K.lookup f_moving = some ⟨oc_moving, od_moving, .func (PySem.W.fnOf "moving" "moving" (defArgs s_moving) (defBody s_moving) (defScope s_moving) .none kV_moving dc_moving pm_moving an_moving cd_moving ct_moving), sl_moving⟩)
    (c_moving : PySem.W.codeIn K cd_moving "moving" = true)
    (k_moving : PySem.W.keepIn K (.ref f_moving) = true)
    (a_are_bytes : PySem.W.nsIn K mainGlobals "are_bytes" = some (some (.ref f_are_bytes)))
    (l_are_bytes : K.lookup f_are_bytes = some ⟨oc_are_bytes, od_are_bytes, .func (PySem.W.fnOf "are_bytes" "are_bytes" (defArgs s_are_bytes) (defBody s_are_bytes) (defScope s_are_bytes) .none kV_are_bytes dc_are_bytes pm_are_bytes an_are_bytes cd_are_bytes ct_are_bytes), sl_are_bytes⟩)
    (c_are_bytes : PySem.W.codeIn K cd_are_bytes "are_bytes" = true)
    (k_are_bytes : PySem.W.keepIn K (.ref f_are_bytes) = true)
    (a_Session_change : PySem.W.findIn K (.ref a_se) "change" = some (some (.ref f_Session_change)))
    (i_Session_change : PySem.W.isFn K (.ref f_Session_change) = true)
    (l_Session_change : K.lookup f_Session_change = some ⟨oc_Session_change, od_Session_change, .func (PySem.W.fnOf "change" "Session.change" (defArgs s_Session_change) (defBody s_Session_change) (defScope s_Session_change) .none kV_Session_change dc_Session_change pm_Session_change an_Session_change cd_Session_change ct_Session_change), sl_Session_change⟩)
    (c_Session_change : PySem.W.codeIn K cd_Session_change "Session.change" = true)
    (k_Session_change : PySem.W.keepIn K (.ref f_Session_change) = true)
    (a_Session_wait : PySem.W.findIn K (.ref a_se) "wait" = some (some (.ref f_Session_wait)))
    (i_Session_wait : PySem.W.isFn K (.ref f_Session_wait) = true)
    (l_Session_wait : K.lookup f_Session_wait = some ⟨oc_Session_wait, od_Session_wait, .func (PySem.W.fnOf "wait" "Session.wait" (defArgs s_Session_wait) (defBody s_Session_wait) (defScope s_Session_wait) .none kV_Session_wait dc_Session_wait pm_Session_wait an_Session_wait cd_Session_wait ct_Session_wait), sl_Session_wait⟩)
    (c_Session_wait : PySem.W.codeIn K cd_Session_wait "Session.wait" = true)
    (k_Session_wait : PySem.W.keepIn K (.ref f_Session_wait) = true)
    (a_Tree_init : PySem.W.findIn K (.ref a_tr) "__init__" = some (some (.ref f_Tree_init)))
    (i_Tree_init : PySem.W.isFn K (.ref f_Tree_init) = true)
    (l_Tree_init : K.lookup f_Tree_init = some ⟨oc_Tree_init, od_Tree_init, .func (PySem.W.fnOf "__init__" "Tree.__init__" (defArgs s_Tree_init) (defBody s_Tree_init) (defScope s_Tree_init) .none kV_Tree_init dc_Tree_init pm_Tree_init an_Tree_init cd_Tree_init ct_Tree_init), sl_Tree_init⟩)
    (c_Tree_init : PySem.W.codeIn K cd_Tree_init "Tree.__init__" = true)
    (k_Tree_init : PySem.W.keepIn K (.ref f_Tree_init) = true)
    (a_Session_start : PySem.W.findIn K (.ref a_se) "start" = some (some (.ref f_Session_start)))
    (i_Session_start : PySem.W.isFn K (.ref f_Session_start) = true)
    (l_Session_start : K.lookup f_Session_start = some ⟨oc_Session_start, od_Session_start, .func (PySem.W.fnOf "start" "Session.start" (defArgs s_Session_start) (defBody s_Session_start) (defScope s_Session_start) .none kV_Session_start dc_Session_start pm_Session_start an_Session_start cd_Session_start ct_Session_start), sl_Session_start⟩)
    (c_Session_start : PySem.W.codeIn K cd_Session_start "Session.start" = true)
    (k_Session_start : PySem.W.keepIn K (.ref f_Session_start) = true)
    (a_answer : PySem.W.nsIn K mainGlobals "answer" = some (some (.ref f_answer)))
    (l_answer : K.lookup f_answer = some ⟨oc_answer, od_answer, .func (PySem.W.fnOf "answer" "answer" (defArgs s_answer) (defBody s_answer) (defScope s_answer) .none kV_answer dc_answer pm_answer an_answer cd_answer ct_answer), sl_answer⟩)
    (c_answer : PySem.W.codeIn K cd_answer "answer" = true)
    (k_answer : PySem.W.keepIn K (.ref f_answer) = true)
    (a_Session_init : PySem.W.findIn K (.ref a_se) "__init__" = some (some (.ref f_Session_init)))
    (i_Session_init : PySem.W.isFn K (.ref f_Session_init) = true)
    (l_Session_init : K.lookup f_Session_init = some ⟨oc_Session_init, od_Session_init, .func (PySem.W.fnOf "__init__" "Session.__init__" (defArgs s_Session_init) (defBody s_Session_init) (defScope s_Session_init) .none kV_Session_init dc_Session_init pm_Session_init an_Session_init cd_Session_init ct_Session_init), sl_Session_init⟩)
    (c_Session_init : PySem.W.codeIn K cd_Session_init "Session.__init__" = true)
    (k_Session_init : PySem.W.keepIn K (.ref f_Session_init) = true)
    (a_answers : PySem.W.nsIn K mainGlobals "answers" = some (some (.ref f_answers)))
    (l_answers : K.lookup f_answers = some ⟨oc_answers, od_answers, .func (PySem.W.fnOf "answers" "answers" (defArgs s_answers) (defBody s_answers) (defScope s_answers) .none kV_answers dc_answers pm_answers an_answers cd_answers ct_answers), sl_answers⟩)
    (c_answers : PySem.W.codeIn K cd_answers "answers" = true)
    (k_answers : PySem.W.keepIn K (.ref f_answers) = true) :
    ∃ fd : FuncData, (∀ (s : Shared) (us : List Value), us.length = (["calls"] : List Str).length → BindsTo s fd ⟨us, []⟩ ((["calls"] : List Str).zip us)) ∧ ∀ base : Heap, K.In base → base.Ns mainGlobals mg → FnOk P w K mg base CX0 8 fa fd ["calls"] (sp_answers K ⟨0, 0, 0, 0⟩) := by
  have T : Txt K mg ⟨a_ch, a_st, a_tr, a_se⟩ := { cCh := mkC pg_ch hd_ch po_ch sa_ch, gCh := PySem.W.mg_of X G e_ch, nPosition := nf_position, nRemoved := nf_removed, nInserted := nf_inserted, cSt := mkC pg_st hd_st po_st sa_st, gSt := PySem.W.mg_of X G e_st, nNumber := nf_number, nParent := nf_parent, nChanges := nf_changes, nText := nf_text, nTime := nf_time, nKept := nf_is_kept, nChildren := nf_children, nVisited := nf_visited, cTr := mkC pg_tr hd_tr po_tr sa_tr, gTr := PySem.W.mg_of X G e_tr, nStates := nf_states, nRoot := nf_root, nCurrent := nf_current, nComing := nf_coming, cSe := mkC pg_se hd_se po_se sa_se, gSe := PySem.W.mg_of X G e_se, nTree := nf_tree, nClock := nf_clock, nOpen := nf_is_open, nGrouped := nf_grouped, nDraft := nf_draft, len := PySem.W.mg_none_of X G z_len, sorted := PySem.W.mg_none_of X G z_sorted, list := PySem.W.mg_none_of X G z_list, zip := PySem.W.mg_none_of X G z_zip, all := PySem.W.mg_none_of X G z_all, int := PySem.W.mg_none_of X G z_int, kMOST_BYTES := mkK X G k_MOST_BYTES, kGREATEST_BYTE := mkK X G k_GREATEST_BYTE, kOVERLAPPED := mkK X G k_OVERLAPPED, kNOBODY := mkK X G k_NOBODY, kOUT_OF_RANGE := mkK X G k_OUT_OF_RANGE, kNO_STATE := mkK X G k_NO_STATE, kMANY_CHANGES := mkK X G k_MANY_CHANGES, kLONG_REVERTED := mkK X G k_LONG_REVERTED, kTOO_LONG := mkK X G k_TOO_LONG, kNOT_ON_PATH := mkK X G k_NOT_ON_PATH, kNOWHERE := mkK X G k_NOWHERE, kOVERLAPS := mkK X G k_OVERLAPS, kGROUP := mkK X G k_GROUP, kMOST_CLOCK := mkK X G k_MOST_CLOCK, kNUMBERS := mkT X G e_NUMBERS l_NUMBERS q_NUMBERS, kWITH_ROW := mkT X G e_WITH_ROW l_WITH_ROW q_WITH_ROW }
  obtain ⟨fd, h1, h2⟩ := finish (P := P) (w := w) T
    (mkF X G a_call_at l_call_at c_call_at k_call_at)
    (mkF X G a_calls_in l_calls_in c_calls_in k_calls_in)
    (mkM a_Tree_state i_Tree_state l_Tree_state c_Tree_state k_Tree_state)
    (mkM a_Tree_has i_Tree_has l_Tree_has c_Tree_has k_Tree_has)
    (mkM a_Session_text_of i_Session_text_of l_Session_text_of c_Session_text_of k_Session_text_of)
    (mkM a_Tree_way_to i_Tree_way_to l_Tree_way_to c_Tree_way_to k_Tree_way_to)
    (mkF X G a_exchanged l_exchanged c_exchanged k_exchanged)
    (mkF X G a_origins_behind l_origins_behind c_origins_behind k_origins_behind)
    (mkF X G a_origins_of l_origins_of c_origins_of k_origins_of)
    (mkM a_Session_origins i_Session_origins l_Session_origins c_Session_origins k_Session_origins)
    (mkF X G a_shared l_shared c_shared k_shared)
    (mkF X G a_path_of l_path_of c_path_of k_path_of)
    (mkM a_Session_path i_Session_path l_Session_path c_Session_path k_Session_path)
    (mkM a_Tree_numbers i_Tree_numbers l_Tree_numbers c_Tree_numbers k_Tree_numbers)
    (mkM a_Session_leaves i_Session_leaves l_Session_leaves c_Session_leaves k_Session_leaves)
    (mkM a_Session_state_info i_Session_state_info l_Session_state_info c_Session_state_info k_Session_state_info)
    (mkM a_Tree_here i_Tree_here l_Tree_here c_Tree_here k_Tree_here)
    (mkM a_Session_text_now i_Session_text_now l_Session_text_now c_Session_text_now k_Session_text_now)
    (mkM a_Session_get_text i_Session_get_text l_Session_get_text c_Session_get_text k_Session_get_text)
    (mkF X G a_telling l_telling c_telling k_telling)
    (mkF X G a_may_root_go l_may_root_go c_may_root_go k_may_root_go)
    (mkM a_Tree_take_root_away i_Tree_take_root_away l_Tree_take_root_away c_Tree_take_root_away k_Tree_take_root_away)
    (mkF X G a_without_roots l_without_roots c_without_roots k_without_roots)
    (mkF X G a_may_go l_may_go c_may_go k_may_go)
    (mkF X G a_leaves_to_go l_leaves_to_go c_leaves_to_go k_leaves_to_go)
    (mkM a_Tree_take_away i_Tree_take_away l_Tree_take_away c_Tree_take_away k_Tree_take_away)
    (mkF X G a_without_leaves l_without_leaves c_without_leaves k_without_leaves)
    (mkF X G a_forget l_forget c_forget k_forget)
    (mkM a_Session_forgotten i_Session_forgotten l_Session_forgotten c_Session_forgotten k_Session_forgotten)
    (mkM a_Session_keep i_Session_keep l_Session_keep c_Session_keep k_Session_keep)
    (mkI mk_st kc_st a_State_init i_State_init l_State_init c_State_init k_State_init)
    (mkM a_Tree_create i_Tree_create l_Tree_create c_Tree_create k_Tree_create)
    (mkF X G a_changed l_changed c_changed k_changed)
    (mkI mk_ch kc_ch a_Change_init i_Change_init l_Change_init c_Change_init k_Change_init)
    (mkF X G a_removed_bytes l_removed_bytes c_removed_bytes k_removed_bytes)
    (mkF X G a_start_behind l_start_behind c_start_behind k_start_behind)
    (mkF X G a_start_behind_all l_start_behind_all c_start_behind_all k_start_behind_all)
    (mkF X G a_changes_behind l_changes_behind c_changes_behind k_changes_behind)
    (mkF X G a_reverting l_reverting c_reverting k_reverting)
    (mkM a_Session_why_not_reverted i_Session_why_not_reverted l_Session_why_not_reverted c_Session_why_not_reverted k_Session_why_not_reverted)
    (mkM a_Session_revert i_Session_revert l_Session_revert c_Session_revert k_Session_revert)
    (mkM a_Tree_visit i_Tree_visit l_Tree_visit c_Tree_visit k_Tree_visit)
    (mkF X G a_steps_of l_steps_of c_steps_of k_steps_of)
    (mkM a_Session_moved_to i_Session_moved_to l_Session_moved_to c_Session_moved_to k_Session_moved_to)
    (mkM a_Session_moved_among i_Session_moved_among l_Session_moved_among c_Session_moved_among k_Session_moved_among)
    (mkM a_Session_ago i_Session_ago l_Session_ago c_Session_ago k_Session_ago)
    (mkM a_Session_later i_Session_later l_Session_later c_Session_later k_Session_later)
    (mkM a_Session_earlier i_Session_earlier l_Session_earlier c_Session_earlier k_Session_earlier)
    (mkM a_Session_go_to i_Session_go_to l_Session_go_to c_Session_go_to k_Session_go_to)
    (mkM a_Session_told_here i_Session_told_here l_Session_told_here c_Session_told_here k_Session_told_here)
    (mkM a_State_preferred i_State_preferred l_State_preferred c_State_preferred k_State_preferred)
    (mkM a_Session_redo i_Session_redo l_Session_redo c_Session_redo k_Session_redo)
    (mkM a_Session_undo i_Session_undo l_Session_undo c_Session_undo k_Session_undo)
    (mkM a_Session_end_group i_Session_end_group l_Session_end_group c_Session_end_group k_Session_end_group)
    (mkM a_Session_begin_group i_Session_begin_group l_Session_begin_group c_Session_begin_group k_Session_begin_group)
    (mkF X G a_moving l_moving c_moving k_moving)
    (mkF X G a_are_bytes l_are_bytes c_are_bytes k_are_bytes)
    (mkM a_Session_change i_Session_change l_Session_change c_Session_change k_Session_change)
    (mkM a_Session_wait i_Session_wait l_Session_wait c_Session_wait k_Session_wait)
    (mkI mk_tr kc_tr a_Tree_init i_Tree_init l_Tree_init c_Tree_init k_Tree_init)
    (mkM a_Session_start i_Session_start l_Session_start c_Session_start k_Session_start)
    (mkF X G a_answer l_answer c_answer k_answer)
    (mkI mk_se kc_se a_Session_init i_Session_init l_Session_init c_Session_init k_Session_init)
    (mkF X G a_answers l_answers c_answers k_answers) hmg
  exact ⟨fd, h1, fun base _ _ => h2 base⟩
end
end Ub
/-! # What keeps Good; the specification's look-ups by the mirror's -/
namespace Ub
theorem find_app {T : Tr} {x : Nd} {j : Nat} (c : Nat) : Tr.find { T with nodes := T.nodes ++ [x], coming := c } j = (T.find j).or (if x.number = j then some x else none) := by
  unfold Tr.find
  rw [List.find?_append]
  congr 1
  show [x].find? (fun y => y.number == j) = _
  rw [List.find?_singleton]
  by_cases e : x.number = j
  · simp [e]
  · simp [e]
theorem create_nodes (T : Tr) (cs : List Chg) (t : List Nat) (time : Nat) : (create T cs t time).nodes = (T.nodes ++ [newNd T cs t time]).map fun x => if x.number = T.current then addKid T.coming x else x := rfl
theorem create_find {T : Tr} (cs : List Chg) (t : List Nat) (time j : Nat) : (create T cs t time).find j = ((T.find j).or (if T.coming = j then some (newNd T cs t time) else none)).map fun x => if x.number = T.current then addKid T.coming x else x := by
  have h := find_upd (T := { T with nodes := T.nodes ++ [newNd T cs t time], coming := T.coming + 1 }) (nb_add T.coming) T.current j
  have h2 := find_app (T := T) (x := newNd T cs t time) (j := j) (T.coming + 1)
  have e : (create T cs t time).find j = (Tr.upd { T with nodes := T.nodes ++ [newNd T cs t time], coming := T.coming + 1 } T.current (addKid T.coming)).find j := rfl
  rw [e, h, h2]
  rfl
theorem wf_create {T : Tr} (W : WF T) {cs : List Chg} {t : List Nat} (time : Nat) (ht : t = cs.foldl Ue03.changed (textOf T T.current)) (hl : t.length ≤ 300) (hne : cs ≠ []) (hin : ∀ c ∈ cs, c.in_.length ≤ 350) : WF (create T cs t time) := by
  obtain ⟨c, hcur⟩ := W.cur
  have hc := mem_of_find hcur
  have hclt := find_lt W hcur
  have par : ∀ z : Nd, (if z.number = T.current then addKid T.coming z else z).parent = z.parent := fun z => ite_al (g := fun x => x.parent) (f := addKid T.coming) (fun _ => rfl) T.current z
  have txt : ∀ z : Nd, (if z.number = T.current then addKid T.coming z else z).text = z.text := fun z => ite_al (g := fun x => x.text) (f := addKid T.coming) (fun _ => rfl) T.current z
  have chg : ∀ z : Nd, (if z.number = T.current then addKid T.coming z else z).changes = z.changes := fun z => ite_al (g := fun x => x.changes) (f := addKid T.coming) (fun _ => rfl) T.current z
  have num : ∀ z : Nd, (if z.number = T.current then addKid T.coming z else z).number = z.number := ite_numb (nb_add T.coming) T.current
  have old : ∀ {j : Nat} {z : Nd}, T.find j = some z → (create T cs t time).find j = some (if z.number = T.current then addKid T.coming z else z) := fun {j z} h => by
    rw [create_find, h]
    rfl
  have inv : ∀ z', z' ∈ (create T cs t time).nodes → ∃ z, (z ∈ T.nodes ∨ z = newNd T cs t time) ∧ z' = if z.number = T.current then addKid T.coming z else z := fun z' h => by
    rw [create_nodes] at h
    obtain ⟨z, hz, e⟩ := List.mem_map.mp h
    refine ⟨z, ?_, e.symm⟩
    rcases List.mem_append.mp hz with h | h
    · exact .inl h
    · exact .inr (by simpa using h)
  have plt : ∀ z ∈ T.nodes, ∀ p, z.parent = some p → p < z.number := fun z hz p e => by
    by_cases r : z.number = T.root
    · obtain ⟨r', h1, h2⟩ := W.root
      have : z = r' := uniq W hz (mem_of_find h1).1 (by rw [r, (mem_of_find h1).2])
      rw [this, h2] at e
      cases e
    · obtain ⟨q, y, h1, h2, _⟩ := W.up z hz r
      rw [e] at h1
      cases h1
      exact h2
  have flt : ∀ j, (((create T cs t time).nodes.filter fun y => y.parent == some j).map fun y => y.number) = ((T.nodes.filter fun y => y.parent == some j).map fun y => y.number) ++ (if T.current = j then [T.coming] else []) := fun j => by
    rw [create_nodes, List.filter_map, List.map_map]
    have q1 : ((fun y : Nd => y.parent == some j) ∘ fun x => if x.number = T.current then addKid T.coming x else x) = fun y : Nd => y.parent == some j := by
      funext u
      show ((if u.number = T.current then addKid T.coming u else u).parent == some j) = _
      rw [par]
    rw [q1, List.filter_append, List.map_append]
    congr 1
    · exact List.map_congr_left fun u _ => num u
    · by_cases e : T.current = j
      · rw [if_pos e]
        have : (List.filter (fun y : Nd => y.parent == some j) [newNd T cs t time]) = [newNd T cs t time] := by simp [newNd, e]
        rw [this]
        show [(if (newNd T cs t time).number = T.current then addKid T.coming (newNd T cs t time) else newNd T cs t time).number] = _
        rw [num]
        rfl
      · rw [if_neg e]
        have : (List.filter (fun y : Nd => y.parent == some j) [newNd T cs t time]) = [] := by simp [newNd, e]
        rw [this]
        rfl
  refine ⟨?_, ?_, ?_, ?_, ?_, ?_, ?_, ?_⟩
  · refine inc_upd (T := { T with nodes := T.nodes ++ [newNd T cs t time], coming := T.coming + 1 }) (nb_add T.coming) ?_
    refine List.pairwise_append.mpr ⟨W.inc, by simp, fun a ha b hb => ?_⟩
    have eb : b = newNd T cs t time := by simpa using hb
    subst eb
    exact W.lt a ha
  · intro z' h
    obtain ⟨z, hz, rfl⟩ := inv z' h
    rw [num]
    show z.number < T.coming + 1
    rcases hz with h | rfl
    · have := W.lt z h; omega
    · show T.coming < T.coming + 1
      omega
  · obtain ⟨r, h1, h2⟩ := W.root
    exact ⟨_, old h1, by rw [par]; exact h2⟩
  · intro z' h nr
    obtain ⟨z, hz, rfl⟩ := inv z' h
    rw [num] at nr ⊢
    rcases hz with hz | rfl
    · obtain ⟨p, y, h1, h2, h3, h4, h5⟩ := W.up z hz nr
      refine ⟨p, _, by rw [par]; exact h1, h2, old h3, ?_, by rw [chg]; exact h5⟩
      rw [txt, txt, chg]
      exact h4
    · refine ⟨T.current, _, by rw [par]; rfl, hclt, old hcur, ?_, by rw [chg]; exact hne⟩
      rw [txt, txt, chg]
      show t = cs.foldl Ue03.changed c.text
      rw [ht, textOf_of hcur]
  · refine ⟨if (newNd T cs t time).number = T.current then addKid T.coming (newNd T cs t time) else newNd T cs t time, ?_⟩
    show (create T cs t time).find T.coming = some _
    rw [create_find, find_none.mpr (fun y hy e => by have := W.lt y hy; omega), if_pos rfl]
    rfl
  · intro z' h
    obtain ⟨z, hz, rfl⟩ := inv z' h
    rw [num, flt]
    rcases hz with hz | rfl
    · by_cases e : z.number = T.current
      · rw [if_pos e, if_pos e.symm]
        show z.children ++ [T.coming] = _
        rw [W.kids z hz]
      · rw [if_neg e, if_neg (fun q => e q.symm), List.append_nil]
        exact W.kids z hz
    · have hn : (newNd T cs t time).number = T.coming := rfl
      have n1 : T.coming ≠ T.current := by omega
      rw [hn, if_neg n1, if_neg n1.symm, List.append_nil]
      show [] = _
      symm
      rw [List.map_eq_nil_iff, List.filter_eq_nil_iff]
      intro y hy q
      have q' : y.parent = some T.coming := by simpa using q
      have h1 := plt y hy _ q'
      have h2 := W.lt y hy
      omega
  · intro z' h
    obtain ⟨z, hz, rfl⟩ := inv z' h
    rw [txt]
    rcases hz with hz | rfl
    · exact W.len z hz
    · exact hl
  · intro z' h
    obtain ⟨z, hz, rfl⟩ := inv z' h
    rw [chg]
    rcases hz with hz | rfl
    · exact W.ins z hz
    · exact hin
theorem wf_fresh {t : List Nat} (hl : t.length ≤ 300) : WF (Tr.fresh t) := by
  refine ⟨by simp [Tr.fresh], fun x hx => ?_, ⟨⟨0, none, [], t, 0, false, [], none⟩, rfl, rfl⟩, fun x hx nr => ?_, ⟨_, rfl⟩, fun x hx => ?_, fun x hx => ?_, fun x hx c hc => ?_⟩
  all_goals
    have ex : x = ⟨0, none, [], t, 0, false, [], none⟩ := by simpa [Tr.fresh] using hx
    subst ex
  · show 0 < 1
    omega
  · exact absurd rfl nr
  · rfl
  · exact hl
  · cases hc
theorem lf_first {M : Tr} (W : WF M) {n : Nat} {l : List Nat} (h : leavesToGo M = n :: l) : ∃ x, M.find n = some x ∧ x.children = [] ∧ n ≠ M.root ∧ n ≠ M.current := by
  have hm : n ∈ leavesToGo M := by rw [h]; exact List.mem_cons_self ..
  unfold leavesToGo at hm
  obtain ⟨x, hx, rfl⟩ := List.mem_map.mp hm
  obtain ⟨h1, h2⟩ := List.mem_filter.mp hx
  unfold mayGo at h2
  simp only [Bool.and_eq_true, bne_iff_ne, List.isEmpty_iff] at h2
  exact ⟨x, W.find h1, h2.1, h2.2.2.1, h2.2.2.2⟩
theorem rt_go {M : Tr} (W : WF M) (h : mayRootGo M = true) : ∃ r c, M.find M.root = some r ∧ r.children = [c] ∧ M.root ≠ M.current := by
  obtain ⟨r, hr0, _⟩ := W.root
  unfold mayRootGo at h
  rw [hr0] at h
  simp only [Bool.and_eq_true, bne_iff_ne, beq_iff_eq] at h
  obtain ⟨c, hc⟩ := List.length_eq_one_iff.mp h.2.2
  exact ⟨r, c, hr0, hc, h.1⟩

/-! ### the specification's state by the mirror's -/
def nd (x : Nd) : Ue03.Node := ⟨x.number, x.parent, x.changes, x.time, x.kept⟩
structure R (g : Ue03.House) (M : Se) : Prop where
  nodes : g.nodes = M.tree.nodes.map nd
  now : g.now = M.tree.current
  given : g.given = M.tree.coming
  clock : g.clock = M.clock
  group : g.group = M.group.map (·.1)
  base : g.base = textOf M.tree M.tree.root
  last : ∀ x ∈ M.tree.nodes, (g.last.find? fun e => e.1 == x.number).map (·.2) = x.visited
  lastLt : ∀ e ∈ g.last, e.1 < g.given
def nodeOf (T : Tr) (k : Nat) : Ue03.Node := match T.find k with
  | some x => nd x
  | none => ⟨k, none, [], 0, false⟩
theorem nodeOf_of {T : Tr} {k : Nat} {x : Nd} (h : T.find k = some x) : nodeOf T k = nd x := by
  unfold nodeOf
  rw [h]
theorem nodeOf_num (T : Tr) (k : Nat) : (nodeOf T k).number = k := by
  unfold nodeOf
  cases e : T.find k with
  | none => rfl
  | some x => exact (mem_of_find e).2
section
variable {g : Ue03.House} {M : Se}
theorem R.find (r : R g M) (n : Nat) : Ue03.find g n = (M.tree.find n).map nd := by
  unfold Ue03.find Tr.find
  rw [r.nodes, List.find?_map]
  rfl
theorem R.findSome (r : R g M) {n : Nat} {x : Nd} (h : M.tree.find n = some x) : Ue03.find g n = some (nd x) := by
  rw [r.find, h]
  rfl
theorem R.kidsN (r : R g M) (n : Nat) : Ue03.children g n = (M.tree.nodes.filter fun y => y.parent == some n).map fun y => y.number := by
  unfold Ue03.children
  rw [r.nodes, List.filter_map, List.map_map]
  rfl
theorem R.kids (r : R g M) (W : WF M.tree) {x : Nd} (hx : x ∈ M.tree.nodes) : Ue03.children g x.number = x.children := by
  rw [r.kidsN, W.kids x hx]
theorem sub_len : ∀ (m l : List Nat), m.Pairwise (· < ·) → l.Pairwise (· < ·) → (∀ k ∈ l, k ∈ m) → l.length ≤ m.length
  | m, [], _, _, _ => Nat.zero_le _
  | [], b :: l, _, _, h => absurd (h b (List.mem_cons_self ..)) (by simp)
  | a :: m, b :: l, hm, hl, h => by
    have hm' := List.pairwise_cons.mp hm
    have hl' := List.pairwise_cons.mp hl
    rcases List.mem_cons.mp (h b (List.mem_cons_self ..)) with e | hb
    · subst e
      have := sub_len m l hm'.2 hl'.2 fun k hk => by
        rcases List.mem_cons.mp (h k (List.mem_cons_of_mem _ hk)) with e | q
        · have := hl'.1 k hk
          omega
        · exact q
      rw [List.length_cons, List.length_cons]
      omega
    · have hab := hm'.1 b hb
      have := sub_len m (b :: l) hm'.2 hl fun k hk => by
        rcases List.mem_cons.mp (h k hk) with e | q
        · rcases List.mem_cons.mp hk with e2 | hk'
          · omega
          · have := hl'.1 k hk'
            omega
        · exact q
      simp only [List.length_cons] at this ⊢
      omega
theorem way_nodes {T : Tr} (W : WF T) {n : Nat} {x : Nd} (h : T.find n = some x) : (wayTo T n).length ≤ T.nodes.length := by
  rw [← nums_len]
  exact sub_len T.nums (wayTo T n) (nums_inc W) (way_inc W n x h) fun k hk => mem_nums.mpr (way_has W n x h k hk)
theorem R.up (r : R g M) (W : WF M.tree) : ∀ n x, M.tree.find n = some x → ∀ f, (wayTo M.tree n).length ≤ f → ∀ l, Ue03.upFrom f g n l = (wayTo M.tree n).map (nodeOf M.tree) ++ l := by
  refine W.ind ?_ ?_
  · intro f hf l
    obtain ⟨r0, h1, h2⟩ := W.root
    rw [way_root] at hf ⊢
    obtain ⟨f, rfl⟩ : ∃ k, f = k + 1 := ⟨f - 1, by simp at hf; omega⟩
    unfold Ue03.upFrom
    rw [r.findSome h1]
    show (match (nd r0).parent with | none => nd r0 :: l | some p => Ue03.upFrom f g p (nd r0 :: l)) = _
    have e : (nd r0).parent = none := h2
    rw [e]
    show nd r0 :: l = [nodeOf M.tree M.tree.root] ++ l
    rw [nodeOf_of h1]
    rfl
  · intro n x p y hx nr hp hy _ ih f hf l
    rw [way_step W hx nr hp] at hf ⊢
    rw [List.length_append, List.length_singleton] at hf
    obtain ⟨f, rfl⟩ : ∃ k, f = k + 1 := ⟨f - 1, by omega⟩
    unfold Ue03.upFrom
    rw [r.findSome hx]
    show (match (nd x).parent with | none => nd x :: l | some p => Ue03.upFrom f g p (nd x :: l)) = _
    have e : (nd x).parent = some p := hp
    rw [e]
    show Ue03.upFrom f g p (nd x :: l) = _
    rw [ih f (by omega), List.map_append, List.append_assoc]
    show _ = _ ++ ([nodeOf M.tree n] ++ l)
    rw [nodeOf_of hx]
    rfl
theorem R.path (r : R g M) (W : WF M.tree) {n : Nat} {x : Nd} (h : M.tree.find n = some x) : Ue03.path g n = (wayTo M.tree n).map (nodeOf M.tree) := by
  unfold Ue03.path
  rw [r.up W n x h _ (by
    have := way_nodes W h
    rw [r.nodes, List.length_map]
    omega), List.append_nil]
theorem R.pathN (r : R g M) (W : WF M.tree) {n : Nat} {x : Nd} (h : M.tree.find n = some x) : (Ue03.path g n).map (fun y => y.number) = wayTo M.tree n := by
  rw [r.path W h, List.map_map]
  have : (fun y : Ue03.Node => y.number) ∘ nodeOf M.tree = id := by
    funext k
    exact nodeOf_num M.tree k
  rw [this, List.map_id]
theorem R.text (r : R g M) (W : WF M.tree) : ∀ n x, M.tree.find n = some x → Ue03.textAt g n = textOf M.tree n := by
  refine W.ind ?_ ?_
  · obtain ⟨r0, h1, _⟩ := W.root
    unfold Ue03.textAt
    rw [r.path W h1, way_root, ← r.base]
    rfl
  · intro n x p y hx nr hp hy _ ih
    obtain ⟨m, e⟩ := mem_of_find hx
    obtain ⟨p', y', h1, _, h3, h4, _⟩ := W.up x m (by rw [e]; exact nr)
    rw [hp] at h1
    cases h1
    rw [hy] at h3
    cases h3
    unfold Ue03.textAt at ih ⊢
    rw [r.path W hx, way_step W hx nr hp]
    rw [r.path W hy] at ih
    obtain ⟨l, hl⟩ := way_head W p y hy
    rw [hl] at ih ⊢
    rw [textOf_of hx, h4, ← textOf_of hy, ← ih]
    rw [List.map_append, List.map_cons, List.cons_append, List.drop_succ_cons, List.drop_zero]
    rw [List.drop_succ_cons, List.drop_zero]
    unfold Ue03.changesOf
    rw [List.flatMap_append, List.foldl_append]
    show List.foldl Ue03.changed _ ((nodeOf M.tree n).changes ++ []) = _
    rw [List.append_nil, nodeOf_of hx]
    rfl
theorem R.textNow (r : R g M) (G : Good M) : Ue03.textNow g = M.textNow := by
  obtain ⟨c, hcur⟩ := G.wf.cur
  unfold Ue03.textNow Se.textNow
  rw [r.group, r.now, r.text G.wf _ _ hcur]
  cases e : M.group with
  | none => rfl
  | some p =>
    show p.1.foldl Ue03.changed _ = p.2
    exact (G.group p.1 p.2 e).1.symm
end
end Ub
/-! # The mirror is the specification, call by call -/
namespace Ub
def Sim (r : Ue03.House × List Int) (a : Ans) : Prop := r.2 = a.2 ∧ R r.1 a.1
theorem nd_num (x : Nd) : (nd x).number = x.number := rfl
theorem nodes_upd {f : Nd → Nd} (h : ∀ x, nd (f x) = nd x) (T : Tr) (k : Nat) : (T.upd k f).nodes.map nd = T.nodes.map nd := by
  unfold Tr.upd
  rw [List.map_map]
  refine List.map_congr_left fun x _ => ?_
  show nd (if x.number = k then f x else x) = nd x
  by_cases e : x.number = k
  · rw [if_pos e, h]
  · rw [if_neg e]
theorem setLast_find (l : List (Nat × Nat)) (a b n : Nat) : ((Ue03.setLast l a b).find? fun e => e.1 == n).map (·.2) = if n = a then some b else (l.find? fun e => e.1 == n).map (·.2) := by
  unfold Ue03.setLast
  by_cases h : n = a
  · subst h
    rw [if_pos rfl, List.find?_cons_of_pos (by simp)]
    rfl
  · rw [if_neg h, List.find?_cons_of_neg (by simp; omega), List.find?_filter]
    congr 1
    congr 1
    funext e
    by_cases q : e.1 = n
    · simp [q, h]
    · simp [q]
theorem setLast_lt {l : List (Nat × Nat)} {a b N : Nat} (h : ∀ e ∈ l, e.1 < N) (ha : a < N) : ∀ e ∈ Ue03.setLast l a b, e.1 < N := by
  intro e he
  unfold Ue03.setLast at he
  rcases List.mem_cons.mp he with rfl | h'
  · exact ha
  · exact h e (List.mem_filter.mp h').1
section
variable {g : Ue03.House} {M : Se}
theorem textOf_upd {T : Tr} {f : Nd → Nd} (hf : Numb f) (ht : ∀ x, (f x).text = x.text) (k j : Nat) : textOf (T.upd k f) j = textOf T j := by
  unfold textOf
  rw [find_upd hf]
  cases e : T.find j with
  | none => rfl
  | some x =>
    show (if x.number = k then f x else x).text = x.text
    exact ite_al (g := fun x => x.text) ht k x
theorem R.vis (r : R g M) {a b : Nat} (ha : a < g.given) : R { g with last := Ue03.setLast g.last a b } { M with tree := M.tree.upd a (setVis b) } where
  nodes := by
    show g.nodes = (M.tree.upd a (setVis b)).nodes.map nd
    rw [nodes_upd (f := setVis b) (fun _ => rfl)]
    exact r.nodes
  now := r.now
  given := r.given
  clock := r.clock
  group := r.group
  base := by
    show g.base = textOf (M.tree.upd a (setVis b)) M.tree.root
    rw [textOf_upd (nb_vis b) (fun _ => rfl)]
    exact r.base
  last := fun x' hx' => by
    obtain ⟨x, hx, rfl⟩ := mem_upd hx'
    show ((Ue03.setLast g.last a b).find? _).map _ = _
    rw [ite_numb (nb_vis b), setLast_find]
    by_cases e : x.number = a
    · rw [if_pos e, if_pos e]
      rfl
    · rw [if_neg e, if_neg e]
      exact r.last x hx
  lastLt := setLast_lt r.lastLt ha
theorem R.marks : ∀ (l : List (Nat × Nat)) {g : Ue03.House} {M : Se}, R g M → (∀ p ∈ l, p.1 < g.given) → R { g with last := l.foldl (fun m x => Ue03.setLast m x.1 x.2) g.last } { M with tree := mark M.tree l }
  | [], _, _, r, _ => r
  | p :: l, g, M, r, h => by
    have h1 := r.vis (b := p.2) (h p (List.mem_cons_self ..))
    exact R.marks l h1 fun q hq => h q (List.mem_cons_of_mem _ hq)
theorem R.toCur (r : R g M) (n : Nat) : R { g with now := n } { M with tree := { M.tree with current := n } } := ⟨r.nodes, rfl, r.given, r.clock, r.group, r.base, r.last, r.lastLt⟩
theorem R.goes (r : R g M) (W : WF M.tree) {n : Nat} {x : Nd} (h : M.tree.find n = some x) : R (Ue03.goes g n) { M with tree := visit M.tree n } := by
  have hp := r.pathN W h
  unfold Ue03.goes
  show R { g with now := n, last := (List.zip ((Ue03.path g n).map fun x => x.number) (((Ue03.path g n).map fun x => x.number).drop 1)).foldl (fun m x => Ue03.setLast m x.1 x.2) g.last } _
  rw [hp, List.drop_one]
  have h1 := R.marks ((wayTo M.tree n).zip (wayTo M.tree n).tail) r fun p hp => by
    have hm : p.1 ∈ wayTo M.tree n := (List.of_mem_zip hp).1
    obtain ⟨y, hy⟩ := way_has W n x h p.1 hm
    rw [r.given]
    exact find_lt W hy
  exact h1.toCur n
theorem fork_eq : ∀ (t : Nat) (l m : List Nat), (Ue03.fork t l m).2.1 = l.drop (shared l m) ∧ (Ue03.fork t l m).2.2 = m.drop (shared l m) ∧ (∀ s, shared l m = s + 1 → l[s]? = some (Ue03.fork t l m).1)
  | t, [], m => by
    have e : shared [] m = 0 := by cases m <;> rfl
    have ef : Ue03.fork t [] m = (t, [], m) := by cases m <;> rfl
    rw [e, ef]
    exact ⟨rfl, rfl, fun s h => by omega⟩
  | t, a :: l, [] => ⟨rfl, rfl, fun s h => by
      have h' : (0 : Nat) = s + 1 := h
      omega⟩
  | t, a :: l, b :: m => by
    by_cases e : a = b
    · subst e
      have ih := fork_eq a l m
      have es : shared (a :: l) (a :: m) = shared l m + 1 := if_pos rfl
      have ef : Ue03.fork t (a :: l) (a :: m) = Ue03.fork a l m := if_pos rfl
      rw [es, ef]
      refine ⟨ih.1, ih.2.1, fun s h => ?_⟩
      have hs : s = shared l m := by omega
      subst hs
      cases e2 : shared l m with
      | zero =>
        show some a = some _
        cases l with
        | nil => cases m <;> rfl
        | cons c l =>
          cases m with
          | nil => rfl
          | cons d m =>
            have : ¬ c = d := fun q => by
              have : shared (c :: l) (d :: m) = shared l m + 1 := if_pos q
              omega
            have ef2 : Ue03.fork a (c :: l) (d :: m) = (a, c :: l, d :: m) := if_neg this
            rw [ef2]
      | succ k =>
        show l[k]? = _
        exact ih.2.2 k e2
    · have es : shared (a :: l) (b :: m) = 0 := if_neg e
      have ef : Ue03.fork t (a :: l) (b :: m) = (t, a :: l, b :: m) := if_neg e
      rw [es, ef]
      exact ⟨rfl, rfl, fun s h => by omega⟩
theorem shared_pos' {T : Tr} (W : WF T) {a b : Nat} {x y : Nd} (hx : T.find a = some x) (hy : T.find b = some y) : 1 ≤ shared (wayTo T a) (wayTo T b) := by
  obtain ⟨l, e1⟩ := way_head W a x hx
  obtain ⟨m, e2⟩ := way_head W b y hy
  rw [e1, e2]
  show 1 ≤ if T.root = T.root then shared l m + 1 else 0
  rw [if_pos rfl]
  omega
theorem R.way (r : R g M) (W : WF M.tree) {a b : Nat} {x y : Nd} (hx : M.tree.find a = some x) (hy : M.tree.find b = some y) : Ue03.way g a b = pathOf M.tree a b := by
  unfold Ue03.way
  show (Ue03.fork 0 ((Ue03.path g a).map fun n => n.number) ((Ue03.path g b).map fun n => n.number)).2.1.reverse ++ ((Ue03.fork 0 ((Ue03.path g a).map fun n => n.number) ((Ue03.path g b).map fun n => n.number)).1 :: (Ue03.fork 0 ((Ue03.path g a).map fun n => n.number) ((Ue03.path g b).map fun n => n.number)).2.2) = _
  rw [r.pathN W hx, r.pathN W hy]
  obtain ⟨h1, h2, h3⟩ := fork_eq 0 (wayTo M.tree a) (wayTo M.tree b)
  have hp := shared_pos' W hx hy
  have h4 := h3 (shared (wayTo M.tree a) (wayTo M.tree b) - 1) (by omega)
  rw [h1, h2]
  unfold pathOf
  obtain ⟨hlt, e⟩ := List.getElem?_eq_some_iff.mp h4
  rw [List.drop_eq_getElem_cons hlt, e, List.reverse_cons, List.append_assoc]
  have : shared (wayTo M.tree a) (wayTo M.tree b) - 1 + 1 = shared (wayTo M.tree a) (wayTo M.tree b) := by omega
  rw [this]
  rfl
theorem R.steps (r : R g M) (W : WF M.tree) {a b : Nat} {x y : Nd} (hx : M.tree.find a = some x) (hy : M.tree.find b = some y) : Ue03.backSteps g a b = stepsUp M.tree a b ∧ Ue03.forthSteps g a b = stepsDown M.tree a b := by
  obtain ⟨h1, h2, _⟩ := fork_eq 0 (wayTo M.tree a) (wayTo M.tree b)
  unfold Ue03.backSteps Ue03.forthSteps stepsUp stepsDown
  rw [r.pathN W hx, r.pathN W hy, h1, h2, List.length_drop, List.length_drop]
  exact ⟨rfl, rfl⟩
theorem R.arrives (r : R g M) (W : WF M.tree) {n : Nat} {x : Nd} (h : M.tree.find n = some x) : Sim (Ue03.arrives g n) (movedTo M n) := by
  obtain ⟨c, hcur⟩ := W.cur
  obtain ⟨h1, h2⟩ := r.steps W hcur h
  refine ⟨?_, r.goes W h⟩
  show Ue03.«ints» [Ue03.backSteps g g.now n, Ue03.forthSteps g g.now n, (Ue03.textAt g n).length] = asInts [stepsUp M.tree M.tree.current n, stepsDown M.tree M.tree.current n, (textOf M.tree n).length]
  rw [r.now, h1, h2, r.text W n x h]
  rfl
theorem R.alon (r : R g M) {a : Ue03.House × List Int} {b : Ans} (h : M.group = none → Sim a b) : Sim (Ue03.alone g a) (alone M b) := by
  unfold Ue03.alone Ub.alone
  rw [r.group]
  cases e : M.group with
  | none => exact h e
  | some p => exact ⟨rfl, r⟩
theorem R.creat (r : R g M) (W : WF M.tree) (l : List Chg) (t : List Nat) : R (Ue03.makes g l) { M with tree := create M.tree l t M.clock, group := none } where
  nodes := by
    show g.nodes ++ [⟨g.given, some g.now, l, g.clock, false⟩] = _
    rw [create_nodes, List.map_map]
    have e : (nd ∘ fun x => if x.number = M.tree.current then addKid M.tree.coming x else x) = nd := by
      funext x
      show nd (if x.number = M.tree.current then addKid M.tree.coming x else x) = nd x
      by_cases e : x.number = M.tree.current
      · rw [if_pos e]
        rfl
      · rw [if_neg e]
    rw [e, List.map_append, r.nodes, r.given, r.now, r.clock]
    rfl
  now := r.given
  given := by
    show g.given + 1 = M.tree.coming + 1
    rw [r.given]
  clock := r.clock
  group := rfl
  base := by
    show g.base = textOf (Ub.create M.tree l t M.clock) M.tree.root
    obtain ⟨r0, h1, _⟩ := W.root
    rw [r.base, textOf_of h1]
    have h2 := create_find (T := M.tree) l t M.clock M.tree.root
    rw [h1] at h2
    rw [textOf_of h2]
    exact (ite_al (g := fun x => x.text) (f := addKid M.tree.coming) (fun _ => rfl) _ _).symm
  last := fun x' hx' => by
    rw [create_nodes] at hx'
    obtain ⟨x, hx, rfl⟩ := List.mem_map.mp hx'
    show ((Ue03.setLast g.last g.now g.given).find? _).map _ = _
    rw [ite_numb (nb_add _), setLast_find, r.now, r.given]
    by_cases e : x.number = M.tree.current
    · rw [if_pos e, if_pos e]
      rfl
    · rw [if_neg e, if_neg e]
      rcases List.mem_append.mp hx with h | h
      · exact r.last x h
      · have ex : x = newNd M.tree l t M.clock := by simpa using h
        subst ex
        show (g.last.find? fun e => e.1 == M.tree.coming).map (·.2) = none
        rw [Option.map_eq_none_iff, List.find?_eq_none]
        intro e he
        have := r.lastLt e he
        rw [r.given] at this
        simp
        omega
  lastLt := by
    obtain ⟨c, hcur⟩ := W.cur
    have h1 := find_lt W hcur
    show ∀ e ∈ Ue03.setLast g.last g.now g.given, e.1 < g.given + 1
    refine setLast_lt (fun e he => ?_) ?_
    · have := r.lastLt e he
      omega
    · rw [r.now, r.given]
      omega
theorem sim_start (r : R g M) (t : List Nat) : Sim (Ue03.step g (.begins t)) (oStart M t) := by
  show Sim (if Ue03.isBytes t = false ∨ Ue03.LONG < t.length then (g, [-1]) else ({ Ue03.init with base := t }, Ue03.«ints» [t.length])) (if 300 < t.length ∨ areBytes t = false then (M, [-1]) else (⟨Tr.fresh t, 0, none⟩, asInts [t.length]))
  by_cases c : 300 < t.length ∨ areBytes t = false
  · rw [if_pos c, if_pos (show Ue03.isBytes t = false ∨ Ue03.LONG < t.length from c.symm)]
    exact ⟨rfl, r⟩
  · rw [if_neg c, if_neg (show ¬ (Ue03.isBytes t = false ∨ Ue03.LONG < t.length) from fun q => c q.symm)]
    refine ⟨rfl, rfl, rfl, rfl, rfl, rfl, rfl, fun x hx => ?_, fun e he => by cases he⟩
    have ex : x = ⟨0, none, [], t, 0, false, [], none⟩ := by simpa [Tr.fresh] using hx
    subst ex
    rfl
theorem sim_wait (r : R g M) (t : Nat) : Sim (Ue03.step g (.wait t)) (oWait M t) := by
  show Sim (if Ue03.CLOCK < g.clock + t then (g, [-1]) else ({ g with clock := g.clock + t }, Ue03.«ints» [g.clock + t])) _
  unfold oWait
  rw [r.clock]
  by_cases c : 1000000 < M.clock + t
  · rw [if_pos c, if_pos (show Ue03.CLOCK < M.clock + t from c)]
    exact ⟨rfl, r⟩
  · rw [if_neg c, if_neg (show ¬ Ue03.CLOCK < M.clock + t from c)]
    exact ⟨rfl, r.nodes, r.now, r.given, rfl, r.group, r.base, r.last, r.lastLt⟩
theorem sim_change (r : R g M) (G : Good M) (p o : Nat) (w : List Nat) : Sim (Ue03.step g (.change ⟨p, o, w⟩)) (oChange M p o w) := by
  have et := r.textNow G
  have e0 : oChange M p o w = if M.textNow.length < p + o ∨ areBytes w = false then (M, [-1]) else if 300 < (Ue03.changed M.textNow ⟨p, o, w⟩).length then (M, [-6]) else match M.group with
    | none => ({ M with tree := create M.tree [⟨p, o, w⟩] (Ue03.changed M.textNow ⟨p, o, w⟩) M.clock }, asInts [M.tree.coming, (Ue03.changed M.textNow ⟨p, o, w⟩).length])
    | some g => ({ M with group := some (g.1 ++ [⟨p, o, w⟩], Ue03.changed M.textNow ⟨p, o, w⟩) }, asInts [M.tree.coming, (Ue03.changed M.textNow ⟨p, o, w⟩).length]) := by
    unfold oChange
    cases M.group <;> rfl
  have e1 : Ue03.step g (.change ⟨p, o, w⟩) = if Ue03.fits (Ue03.textNow g) ⟨p, o, w⟩ = false ∨ Ue03.isBytes w = false then (g, [-1]) else if Ue03.LONG < (Ue03.changed (Ue03.textNow g) ⟨p, o, w⟩).length then (g, [-6]) else match g.group with
    | some l => ({ g with group := some (l ++ [⟨p, o, w⟩]) }, Ue03.«ints» [g.given, (Ue03.changed (Ue03.textNow g) ⟨p, o, w⟩).length])
    | none => (Ue03.makes g [⟨p, o, w⟩], Ue03.«ints» [g.given, (Ue03.changed (Ue03.textNow g) ⟨p, o, w⟩).length]) := by
    show (if _ then _ else if _ then _ else _) = _
    cases g.group <;> rfl
  rw [e0, e1, et]
  have ef : (Ue03.fits M.textNow ⟨p, o, w⟩ = false ∨ Ue03.isBytes w = false) ↔ (M.textNow.length < p + o ∨ areBytes w = false) := by
    have : Ue03.fits M.textNow ⟨p, o, w⟩ = false ↔ M.textNow.length < p + o := by
      show decide (p + o ≤ M.textNow.length) = false ↔ _
      rw [decide_eq_false_iff_not]
      omega
    rw [this]
    rfl
  by_cases c : M.textNow.length < p + o ∨ areBytes w = false
  · rw [if_pos c, if_pos (ef.mpr c)]
    exact ⟨rfl, r⟩
  · rw [if_neg c, if_neg fun q => c (ef.mp q)]
    by_cases c2 : 300 < (Ue03.changed M.textNow ⟨p, o, w⟩).length
    · rw [if_pos c2, if_pos (show Ue03.LONG < _ from c2)]
      exact ⟨rfl, r⟩
    · rw [if_neg c2, if_neg (show ¬ Ue03.LONG < _ from c2)]
      have hg := r.group
      cases e : M.group with
      | none =>
        rw [e] at hg
        have hg' : g.group = none := hg
        rw [hg']
        refine ⟨?_, ?_⟩
        · show Ue03.«ints» [g.given, _] = asInts [M.tree.coming, _]
          rw [r.given]
          rfl
        · have := r.creat G.wf [⟨p, o, w⟩] (Ue03.changed M.textNow ⟨p, o, w⟩)
          exact this
      | some q =>
        rw [e] at hg
        have hg' : g.group = some q.1 := hg
        rw [hg']
        refine ⟨?_, r.nodes, r.now, r.given, r.clock, rfl, r.base, r.last, r.lastLt⟩
        show Ue03.«ints» [g.given, _] = asInts [M.tree.coming, _]
        rw [r.given]
        rfl
theorem sim_open (r : R g M) (G : Good M) : Sim (Ue03.step g .open_) (oOpen M) := by
  show Sim (Ue03.alone g ({ g with group := some [] }, Ue03.«ints» [g.given])) _
  have e0 : oOpen M = alone M ({ M with group := some ([], textOf M.tree M.tree.current) }, asInts [M.tree.coming]) := by
    unfold oOpen alone
    cases M.group <;> rfl
  rw [e0]
  refine r.alon fun _ => ⟨?_, r.nodes, r.now, r.given, r.clock, rfl, r.base, r.last, r.lastLt⟩
  show Ue03.«ints» [g.given] = asInts [M.tree.coming]
  rw [r.given]
  rfl
theorem sim_close (r : R g M) (G : Good M) : Sim (Ue03.step g .close) (oClose M) := by
  show Sim (match g.group with
    | none => (g, [-9])
    | some [] => ({ g with group := none }, Ue03.«ints» [g.now])
    | some l => (Ue03.makes g l, Ue03.«ints» [g.given])) _
  have e0 : oClose M = match M.group with
    | none => (M, [-9])
    | some g => if g.1.isEmpty = true then ({ M with group := none }, asInts [M.tree.current]) else ({ M with tree := create M.tree g.1 g.2 M.clock, group := none }, asInts [M.tree.coming]) := by
    unfold oClose
    cases M.group <;> rfl
  rw [e0]
  have hg := r.group
  cases e : M.group with
  | none =>
    rw [e] at hg
    have hg' : g.group = none := hg
    rw [hg']
    exact ⟨rfl, r⟩
  | some q =>
    obtain ⟨cs, t⟩ := q
    rw [e] at hg
    have hg' : g.group = some cs := hg
    rw [hg']
    cases cs with
    | nil =>
      refine ⟨?_, r.nodes, r.now, r.given, r.clock, rfl, r.base, r.last, r.lastLt⟩
      show Ue03.«ints» [g.now] = asInts [M.tree.current]
      rw [r.now]
      rfl
    | cons c cs =>
      refine ⟨?_, r.creat G.wf (c :: cs) t⟩
      show Ue03.«ints» [g.given] = asInts [M.tree.coming]
      rw [r.given]
      rfl
theorem sim_undo (r : R g M) (G : Good M) : Sim (Ue03.step g .undo) (oUndo M) := by
  obtain ⟨c, hcur⟩ := G.wf.cur
  have e1 : Ue03.step g .undo = Ue03.alone g (match c.parent with
    | none => (g, [-7])
    | some p => ({ g with now := p }, Ue03.«ints» [p, (Ue03.textAt g p).length])) := by
    show Ue03.alone g (match (Ue03.find g g.now).bind fun x => x.parent with
      | none => (g, [-7])
      | some p => ({ g with now := p }, Ue03.«ints» [p, (Ue03.textAt g p).length])) = _
    rw [r.now, r.findSome hcur]
    rfl
  rw [e1]
  unfold oUndo
  refine r.alon fun _ => ?_
  rw [hcur]
  obtain ⟨m, ec⟩ := mem_of_find hcur
  by_cases e : M.tree.current = M.tree.root
  · rw [if_pos e]
    obtain ⟨r0, h1, h2⟩ := G.wf.root
    rw [e, h1] at hcur
    cases hcur
    rw [h2]
    exact ⟨rfl, r⟩
  · rw [if_neg e]
    obtain ⟨p, y, h1, h2, h3, _⟩ := G.wf.up c m (by rw [ec]; exact e)
    show Sim _ (match c.parent with | some p => ({ M with tree := { M.tree with current := p } }, toldHere { M.tree with current := p }) | none => (M, []))
    rw [h1]
    refine ⟨?_, r.toCur p⟩
    show Ue03.«ints» [p, (Ue03.textAt g p).length] = asInts [p, (textOf M.tree p).length]
    rw [r.text G.wf p y h3]
    rfl
theorem R.forth (r : R g M) (W : WF M.tree) {n : Nat} {x : Nd} (h : M.tree.find n = some x) : Ue03.forth g n = if x.children.isEmpty = true then none else some x.preferred := by
  obtain ⟨m, en⟩ := mem_of_find h
  have hk := r.kids W m
  rw [en] at hk
  have hl := r.last x m
  rw [en] at hl
  unfold Ue03.forth
  rw [hk]
  have hgl : x.children.getLast? = if x.children.isEmpty = true then none else some (x.children.getLastD 0) := by
    rw [List.getLastD_eq_getLast?]
    cases e : x.children with
    | nil => rfl
    | cons a l =>
      show (a :: l).getLast? = some _
      cases e2 : (a :: l).getLast? with
      | none => rw [List.getLast?_eq_none_iff] at e2; cases e2
      | some z => rfl
  show (match g.last.find? fun x => x.1 == n with
    | some x_1 => if x.children.contains x_1.2 = true then some x_1.2 else x.children.getLast?
    | none => x.children.getLast?) = _
  cases e : g.last.find? fun x => x.1 == n with
  | none =>
    rw [e] at hl
    have hv : x.visited = none := hl.symm
    rw [hgl]
    unfold Nd.preferred
    rw [hv]
  | some q =>
    rw [e] at hl
    have hv : x.visited = some q.2 := hl.symm
    show (if x.children.contains q.2 = true then some q.2 else x.children.getLast?) = _
    unfold Nd.preferred
    rw [hv, hgl]
    show _ = if x.children.isEmpty = true then none else some (if x.children.contains q.2 = true then q.2 else x.children.getLastD 0)
    by_cases c : x.children.contains q.2 = true
    · have hne : ¬ x.children.isEmpty = true := fun z => by
        rw [List.isEmpty_iff.mp z] at c
        cases c
      rw [if_pos c, if_neg hne, if_pos c]
    · rw [if_neg c, if_neg c]
theorem sim_redo (r : R g M) (G : Good M) : Sim (Ue03.step g .redo) (oRedo M) := by
  obtain ⟨c, hcur⟩ := G.wf.cur
  have hf := r.forth G.wf hcur
  show Sim (Ue03.alone g (match Ue03.forth g g.now with
    | none => (g, [-7])
    | some n => ({ g with now := n, last := Ue03.setLast g.last g.now n }, Ue03.«ints» [n, (Ue03.textAt g n).length]))) _
  unfold oRedo
  refine r.alon fun _ => ?_
  rw [hcur, r.now, hf]
  show Sim _ (if c.children.isEmpty = true then (M, [-7]) else ({ M with tree := redoT M.tree c }, toldHere (redoT M.tree c)))
  by_cases e : c.children.isEmpty = true
  · rw [if_pos e, if_pos e]
    exact ⟨rfl, r⟩
  · rw [if_neg e, if_neg e]
    have hne : c.children ≠ [] := fun z => e (by rw [z]; rfl)
    obtain ⟨y, hy, _⟩ := kid_mem G.wf (mem_of_find hcur).1 (preferred_mem hne)
    have hv := r.vis (a := M.tree.current) (b := c.preferred) (by rw [r.given]; exact find_lt G.wf hcur)
    refine ⟨?_, hv.toCur c.preferred⟩
    show Ue03.«ints» [c.preferred, (Ue03.textAt g c.preferred).length] = asInts [c.preferred, (textOf (M.tree.upd M.tree.current (setVis c.preferred)) c.preferred).length]
    rw [textOf_upd (nb_vis _) (fun _ => rfl), r.text G.wf _ y hy]
    rfl
theorem sim_goto (r : R g M) (G : Good M) (n : Nat) : Sim (Ue03.step g (.goto n)) (oGoto M n) := by
  show Sim (Ue03.alone g (if (Ue03.find g n).isNone = true then (g, [-2]) else Ue03.arrives g n)) _
  unfold oGoto
  refine r.alon fun _ => ?_
  rw [r.find]
  cases e : M.tree.find n with
  | none =>
    rw [if_pos (show (Option.map nd none).isNone = true from rfl), if_neg (by unfold Tr.has; rw [e]; simp)]
    exact ⟨rfl, r⟩
  | some x =>
    rw [if_neg (by simp), if_pos (by unfold Tr.has; rw [e]; rfl)]
    exact r.arrives G.wf e
theorem sim_among (r : R g M) (G : Good M) (ls : List Ue03.Node) (l : List Nat) (n : Nat) (hn : n ≠ 0) (hl : l = ls.map fun x => x.number) (hm : ∀ k ∈ l, ∃ x, M.tree.find k = some x) (hg : M.group = none) : Sim (match ls[n - 1]? with
    | none => (g, [-7])
    | some x => ((Ue03.arrives g x.number).1, (x.number : Int) :: (Ue03.arrives g x.number).2)) (movedAmong M l n) := by
  have e0 : movedAmong M l n = match l[n - 1]? with
    | some k => ((movedTo M k).1, (k : Int) :: (movedTo M k).2)
    | none => (M, [-7]) := by
    unfold movedAmong alone
    rw [hg, if_neg hn]
    rfl
  rw [e0, hl, List.getElem?_map]
  cases e : ls[n - 1]? with
  | none => exact ⟨rfl, r⟩
  | some x =>
    obtain ⟨y, hy⟩ := hm x.number (by rw [hl]; exact List.mem_map.mpr ⟨x, List.mem_of_getElem? e, rfl⟩)
    obtain ⟨h1, h2⟩ := r.arrives G.wf hy
    refine ⟨?_, h2⟩
    show (x.number : Int) :: _ = (x.number : Int) :: _
    rw [h1]
theorem among_zero (M : Se) (l : List Nat) : movedAmong M l 0 = alone M (M, [-1]) := by
  unfold movedAmong
  rw [if_pos rfl]
theorem among_alone (M : Se) (l : List Nat) (n : Nat) : movedAmong M l n = alone M (movedAmong M l n) := by
  unfold movedAmong alone
  cases M.group <;> rfl
theorem nums_filter (T : Tr) (p : Nat → Bool) : T.nums.filter p = ((T.nodes.map nd).filter fun x => p x.number).map fun x => x.number := by
  unfold Tr.nums
  rw [List.filter_map, List.filter_map, List.map_map]
  rfl
theorem sim_earlier (r : R g M) (G : Good M) (n : Nat) : Sim (Ue03.step g (.earlier n)) (oEarlier M n) := by
  show Sim (Ue03.alone g (if n = 0 then (g, [-1]) else match ((g.nodes.filter fun x => decide (x.number < g.now)).reverse)[n - 1]? with
    | none => (g, [-7])
    | some x => ((Ue03.arrives g x.number).1, (x.number : Int) :: (Ue03.arrives g x.number).2))) _
  unfold oEarlier
  rw [among_alone]
  refine r.alon fun hg => ?_
  by_cases e : n = 0
  · subst e
    rw [if_pos rfl, among_zero]
    unfold alone
    rw [hg]
    exact ⟨rfl, r⟩
  · rw [if_neg e]
    refine sim_among r G _ _ n e ?_ (fun k hk => ?_) hg
    · rw [nums_filter, ← r.nodes, r.now, List.map_reverse]
    · exact mem_nums.mp (List.mem_filter.mp (List.mem_reverse.mp hk)).1
theorem sim_later (r : R g M) (G : Good M) (n : Nat) : Sim (Ue03.step g (.later n)) (oLater M n) := by
  show Sim (Ue03.alone g (if n = 0 then (g, [-1]) else match (g.nodes.filter fun x => decide (g.now < x.number))[n - 1]? with
    | none => (g, [-7])
    | some x => ((Ue03.arrives g x.number).1, (x.number : Int) :: (Ue03.arrives g x.number).2))) _
  unfold oLater
  rw [among_alone]
  refine r.alon fun hg => ?_
  by_cases e : n = 0
  · subst e
    rw [if_pos rfl, among_zero]
    unfold alone
    rw [hg]
    exact ⟨rfl, r⟩
  · rw [if_neg e]
    refine sim_among r G _ _ n e ?_ (fun k hk => ?_) hg
    · rw [nums_filter, ← r.nodes, r.now]
    · exact mem_nums.mp (List.mem_filter.mp hk).1
theorem sim_ago (r : R g M) (G : Good M) (t : Nat) : Sim (Ue03.step g (.ago t)) (oAgo M t) := by
  have e1 : Ue03.step g (.ago t) = Ue03.alone g (match ((g.nodes.filter fun x => decide (x.time + t ≤ g.clock)).reverse)[1 - 1]? with
    | none => (g, [-7])
    | some x => ((Ue03.arrives g x.number).1, (x.number : Int) :: (Ue03.arrives g x.number).2)) := by
    show Ue03.alone g (match (g.nodes.filter fun x => decide (x.time + t ≤ g.clock)).getLast? with
      | none => (g, [-7])
      | some x => ((Ue03.arrives g x.number).1, (x.number : Int) :: (Ue03.arrives g x.number).2)) = _
    have : ((g.nodes.filter fun x => decide (x.time + t ≤ g.clock)).reverse)[1 - 1]? = (g.nodes.filter fun x => decide (x.time + t ≤ g.clock)).getLast? := by
      show ((g.nodes.filter fun x => decide (x.time + t ≤ g.clock)).reverse)[0]? = _
      rw [← List.head?_eq_getElem?, List.head?_reverse]
    rw [this]
  rw [e1]
  unfold oAgo
  rw [among_alone]
  refine r.alon fun hg => ?_
  refine sim_among r G _ _ 1 (by decide) ?_ (fun k hk => ?_) hg
  · unfold agoL
    rw [r.nodes, r.clock, List.filter_map, ← List.map_reverse, ← List.map_reverse, List.map_map]
    rfl
  · have hm := List.mem_reverse.mp hk
    unfold agoL at hm
    obtain ⟨x, hx, rfl⟩ := List.mem_map.mp hm
    exact ⟨x, G.wf.find (List.mem_filter.mp hx).1⟩
theorem sim_shows (r : R g M) (G : Good M) : Sim (Ue03.step g .shows) (oShows M) := by
  refine ⟨?_, r⟩
  show ((Ue03.textNow g).length : Int) :: Ue03.«ints» (Ue03.textNow g) = _
  rw [r.textNow G]
  rfl
theorem sim_info (r : R g M) (G : Good M) (n : Nat) : Sim (Ue03.step g (.state n)) (oInfo M n) := by
  have e1 : Ue03.step g (.state n) = (g, match (M.tree.find n).map nd with
    | none => [-2]
    | some x => Ue03.«ints» ([match x.parent with
        | none => 0
        | some p => p + 1, x.time, (Ue03.path g n).length - 1, if x.kept = true then 1 else 0, x.changes.length, (Ue03.children g n).length] ++ Ue03.children g n)) := by
    rw [← r.find]
    rfl
  rw [e1]
  unfold oInfo
  cases e : M.tree.find n with
  | none => exact ⟨rfl, r⟩
  | some x =>
    refine ⟨?_, r⟩
    obtain ⟨m, en⟩ := mem_of_find e
    have hk := r.kids G.wf m
    rw [en] at hk
    obtain ⟨l, hl⟩ := way_head G.wf n x e
    show Ue03.«ints» ([match x.parent with
        | none => 0
        | some p => p + 1, x.time, (Ue03.path g n).length - 1, if x.kept = true then 1 else 0, x.changes.length, (Ue03.children g n).length] ++ Ue03.children g n) = [encP x.parent + 1, (x.time : Int), ((wayTo M.tree n).length : Int) - 1, if x.kept = true then 1 else 0, (x.changes.length : Int), (x.children.length : Int)] ++ asInts x.children
    rw [hk, r.path G.wf e, List.length_map, hl]
    unfold Ue03.«ints»
    rw [List.map_append]
    congr 1
    rw [List.map_cons, List.map_cons, List.map_cons, List.map_cons, List.map_cons, List.map_cons, List.map_nil]
    congr 1
    · cases x.parent with
      | none => rfl
      | some p =>
        show ((p + 1 : Nat) : Int) = (p : Int) + 1
        omega
    · congr 1
      congr 1
      · rw [List.length_cons]
        omega
      · congr 1
        cases x.kept <;> rfl
theorem sim_ends (r : R g M) (G : Good M) : Sim (Ue03.step g .ends) (oLeaves M) := by
  have e : ((g.nodes.filter (Ue03.isEnd g)).map fun x => x.number) = leavesL M.tree := by
    unfold leavesL
    rw [r.nodes, List.filter_map, List.map_map]
    have : M.tree.nodes.filter (Ue03.isEnd g ∘ nd) = M.tree.nodes.filter fun x => x.children.isEmpty := by
      refine List.filter_congr fun x hx => ?_
      show (Ue03.children g x.number).isEmpty = _
      rw [r.kids G.wf hx]
    rw [this]
    rfl
  refine ⟨?_, r⟩
  show (((g.nodes.filter (Ue03.isEnd g)).map fun x => x.number).length : Int) :: Ue03.«ints» ((g.nodes.filter (Ue03.isEnd g)).map fun x => x.number) = _
  rw [e]
  rfl
theorem sim_way (r : R g M) (G : Good M) (a b : Nat) : Sim (Ue03.step g (.way a b)) (oPath M a b) := by
  have e1 : Ue03.step g (.way a b) = (g, if ((M.tree.find a).map nd).isNone = true ∨ ((M.tree.find b).map nd).isNone = true then [-2] else ((Ue03.way g a b).length : Int) :: Ue03.«ints» (Ue03.way g a b)) := by
    rw [← r.find, ← r.find]
    rfl
  rw [e1]
  unfold oPath
  cases ea : M.tree.find a with
  | none =>
    rw [if_pos (.inl rfl), if_neg (by unfold Tr.has; rw [ea]; simp)]
    exact ⟨rfl, r⟩
  | some x =>
    cases eb : M.tree.find b with
    | none =>
      rw [if_pos (.inr rfl), if_neg (by unfold Tr.has; rw [eb]; simp)]
      exact ⟨rfl, r⟩
    | some y =>
      rw [if_neg (by simp), if_pos (by unfold Tr.has; rw [ea, eb]; exact ⟨rfl, rfl⟩), r.way G.wf ea eb]
      exact ⟨rfl, r⟩
theorem sim_text (r : R g M) (G : Good M) (n : Nat) : Sim (Ue03.step g (.text n)) (oText M n) := by
  have e1 : Ue03.step g (.text n) = (g, if ((M.tree.find n).map nd).isNone = true then [-2] else ((Ue03.textAt g n).length : Int) :: Ue03.«ints» (Ue03.textAt g n)) := by
    rw [← r.find]
    rfl
  rw [e1]
  unfold oText
  cases ea : M.tree.find n with
  | none =>
    rw [if_pos (show (Option.map nd none).isNone = true from rfl), if_neg (by unfold Tr.has; rw [ea]; simp)]
    exact ⟨rfl, r⟩
  | some x =>
    rw [if_neg (by simp), if_pos (by unfold Tr.has; rw [ea]; rfl), r.text G.wf n x ea]
    exact ⟨rfl, r⟩
theorem sim_keep (r : R g M) (G : Good M) (n : Nat) (k : Bool) : Sim (Ue03.step g (.keep n k)) (oKeep M n k) := by
  have e1 : Ue03.step g (.keep n k) = if ((M.tree.find n).map nd).isNone = true then (g, [-2]) else ({ g with nodes := g.nodes.map fun x => if x.number = n then { x with kept := k } else x }, [0]) := by
    rw [← r.find]
    rfl
  rw [e1]
  unfold oKeep
  cases ea : M.tree.find n with
  | none =>
    rw [if_pos (show (Option.map nd none).isNone = true from rfl), if_neg (by unfold Tr.has; rw [ea]; simp)]
    exact ⟨rfl, r⟩
  | some x =>
    rw [if_neg (by simp), if_pos (by unfold Tr.has; rw [ea]; rfl)]
    refine ⟨rfl, ?_, r.now, r.given, r.clock, r.group, ?_, fun y' hy' => ?_, r.lastLt⟩
    · show (g.nodes.map fun x => if x.number = n then { x with kept := k } else x) = (M.tree.upd n (setKept k)).nodes.map nd
      unfold Tr.upd
      rw [r.nodes, List.map_map, List.map_map]
      refine List.map_congr_left fun y _ => ?_
      show (if (nd y).number = n then { nd y with kept := k } else nd y) = nd (if y.number = n then setKept k y else y)
      by_cases e : y.number = n
      · rw [if_pos e, if_pos (show (nd y).number = n from e)]
        rfl
      · rw [if_neg e, if_neg (show ¬ (nd y).number = n from e)]
    · show g.base = textOf (M.tree.upd n (setKept k)) M.tree.root
      rw [textOf_upd (nb_kept k) (fun _ => rfl)]
      exact r.base
    · obtain ⟨y, hy, rfl⟩ := mem_upd hy'
      rw [ite_numb (nb_kept k)]
      have : (if y.number = n then setKept k y else y).visited = y.visited := ite_al (g := fun x => x.visited) (f := setKept k) (fun _ => rfl) n y
      rw [this]
      exact r.last y hy
end
end Ub
/-! # Origins, reverting, forgetting -/
namespace Ub
theorem put_map {A B : Type} (f : A → B) (t : List A) (p o : Nat) (w : List A) : (Ue03.put t p o w).map f = Ue03.put (t.map f) p o (w.map f) := by
  unfold Ue03.put
  rw [List.map_append, List.map_append, List.map_take, List.map_drop]
theorem rep_map (l : List Nat) (n : Nat) : (l.map fun b => (b, n)).map (fun x => x.2) = List.replicate l.length n := by
  induction l with
  | nil => rfl
  | cons a l ih => rw [List.map_cons, List.map_cons, ih, List.length_cons, List.replicate_succ]
theorem beh_map (n : Nat) : ∀ (cs : List Chg) (t : List (Nat × Nat)), (cs.foldl (fun t c => Ue03.put t c.at_ c.out (c.in_.map fun b => (b, n))) t).map (fun x => x.2) = originsBehind (t.map fun x => x.2) n cs
  | [], t => rfl
  | c :: cs, t => by
    rw [List.foldl_cons, beh_map n cs, put_map, rep_map]
    rfl
theorem nodeOf_changes (T : Tr) (k : Nat) : (nodeOf T k).changes = changesOf T k := by
  unfold nodeOf changesOf
  cases T.find k <;> rfl
theorem org_map (T : Tr) : ∀ (l : List Nat) (t : List (Nat × Nat)), ((l.map (nodeOf T)).foldl (fun t x => x.changes.foldl (fun t c => Ue03.put t c.at_ c.out (c.in_.map fun b => (b, x.number))) t) t).map (fun x => x.2) = l.foldl (fun found n => originsBehind found n (changesOf T n)) (t.map fun x => x.2)
  | [], t => rfl
  | n :: l, t => by
    rw [List.map_cons, List.foldl_cons, List.foldl_cons, org_map T l, beh_map, nodeOf_changes, nodeOf_num]
section
variable {g : Ue03.House} {M : Se}
theorem R.origins (r : R g M) (W : WF M.tree) : (Ue03.origins g g.now).map (fun x => x.2) = originsOf M.tree := by
  obtain ⟨c, hcur⟩ := W.cur
  unfold Ue03.origins originsOf
  rw [r.now]
  show (List.foldl _ (g.base.map fun b => (b, ((Ue03.path g M.tree.current).head?.map fun x => x.number).getD 0)) ((Ue03.path g M.tree.current).drop 1)).map (fun x => x.2) = _
  rw [r.path W hcur]
  obtain ⟨l, hl⟩ := way_head W _ c hcur
  rw [hl, ← List.map_drop, org_map]
  show List.foldl _ ((g.base.map fun b => (b, (nodeOf M.tree M.tree.root).number)).map fun x => x.2) _ = _
  rw [nodeOf_num, rep_map, r.base]
  rfl
theorem sim_origin (r : R g M) (G : Good M) : Sim (Ue03.step g .origin) (oOrigins M) := by
  show Sim (Ue03.alone g (g, ((Ue03.origins g g.now).length : Int) :: Ue03.«ints» ((Ue03.origins g g.now).map fun x => x.2))) _
  unfold oOrigins
  refine r.alon fun _ => ⟨?_, r⟩
  show ((Ue03.origins g g.now).length : Int) :: Ue03.«ints» ((Ue03.origins g g.now).map fun x => x.2) = _
  have e : (Ue03.origins g g.now).length = (originsOf M.tree).length := by rw [← r.origins G.wf, List.length_map]
  rw [r.origins G.wf, e]
  rfl

/-! ### reverting -/
theorem passed_eq (s k : Nat) (c : Chg) : Ue03.passed (s, k) c = (startBehind s k c).map fun z => (z, k) := by
  unfold Ue03.passed startBehind
  show (if s + k ≤ c.at_ then some (s, k) else if c.at_ + c.out ≤ s then some (s + c.in_.length - c.out, k) else none) = _
  by_cases h : s + k ≤ c.at_
  · rw [if_pos h, if_pos h]
    rfl
  · rw [if_neg h, if_neg h]
    by_cases h2 : c.at_ + c.out ≤ s
    · rw [if_pos h2, if_pos h2]
      rfl
    · rw [if_neg h2, if_neg h2]
      rfl
theorem passed_none : ∀ (l : List Chg), l.foldl (fun o c => o.bind fun y => Ue03.passed y c) none = none
  | [] => rfl
  | c :: l => passed_none l
theorem passedAll_eq (k : Nat) : ∀ (l : List Chg) (s : Nat), Ue03.passedAll (s, k) l = (startBehindAll k s l).map fun z => (z, k)
  | [], s => rfl
  | c :: l, s => by
    have ih := fun s => passedAll_eq k l s
    unfold Ue03.passedAll at ih ⊢
    rw [List.foldl_cons]
    show List.foldl _ (Ue03.passed (s, k) c) l = (match startBehind s k c with
      | some s => startBehindAll k s l
      | none => none).map fun z => (z, k)
    rw [passed_eq]
    cases startBehind s k c with
    | none => exact passed_none l
    | some z => exact ih z
theorem way_split {T : Tr} (W : WF T) : ∀ m x, T.find m = some x → ∀ n ∈ wayTo T m, ∃ rest, wayTo T m = wayTo T n ++ rest := by
  refine W.ind ?_ ?_
  · intro n hn
    rw [way_root] at hn
    have : n = T.root := by simpa using hn
    subst this
    exact ⟨[], by rw [List.append_nil]⟩
  · intro m x p y hx nr hp _ _ ih n hn
    have e := way_step W hx nr hp
    rw [e] at hn
    rcases List.mem_append.mp hn with h | h
    · obtain ⟨rest, er⟩ := ih n h
      exact ⟨rest ++ [m], by rw [e, er, List.append_assoc]⟩
    · have : n = m := by simpa using h
      subst this
      exact ⟨[], by rw [List.append_nil]⟩
theorem takeW (l r : List Nat) (n : Nat) (h : n ∉ l) (f : Nat → Ue03.Node) (hf : ∀ k, (f k).number = k) : ((l ++ n :: r).map f).takeWhile (fun x => x.number != n) = l.map f ∧ ((l ++ n :: r).map f).dropWhile (fun x => x.number != n) = (n :: r).map f := by
  induction l with
  | nil =>
    have : ((f n).number != n) = false := by rw [hf]; simp
    constructor
    · rw [List.nil_append, List.map_cons, List.takeWhile_cons, this]
      rfl
    · rw [List.nil_append, List.map_cons, List.dropWhile_cons, this]
      rfl
  | cons a l ih =>
    have h1 : ¬ n = a := fun q => h (by rw [q]; exact List.mem_cons_self ..)
    have h2 : n ∉ l := fun q => h (List.mem_cons_of_mem _ q)
    have : ((f a).number != n) = true := by rw [hf]; simp; omega
    obtain ⟨i1, i2⟩ := ih h2
    constructor
    · rw [List.cons_append, List.map_cons, List.takeWhile_cons, this, if_pos rfl, i1]
      rfl
    · rw [List.cons_append, List.map_cons, List.dropWhile_cons, this, if_pos rfl, i2]
theorem idx_split (l r : List Nat) (n : Nat) (h : n ∉ l) : (l ++ n :: r).idxOf n = l.length := by
  rw [List.idxOf_append, if_neg h, List.idxOf_cons_self]
  omega
theorem changesOf_map (T : Tr) (l : List Nat) : Ue03.changesOf (l.map (nodeOf T)) = l.flatMap (changesOf T) := by
  unfold Ue03.changesOf
  rw [List.flatMap_map]
  congr 1
  funext k
  exact nodeOf_changes T k
theorem R.back (r : R g M) (W : WF M.tree) {n p : Nat} {x : Nd} (h : M.tree.find n = some x) (nr : n ≠ M.tree.root) (hp : x.parent = some p) (hw : n ∈ wayTo M.tree M.tree.current) (c : Chg) : Ue03.takesBack g n c = reverting M.tree x p c := by
  obtain ⟨cu, hcur⟩ := W.cur
  obtain ⟨m, en⟩ := mem_of_find h
  obtain ⟨p', y, h1, h2, h3, _⟩ := W.up x m (by rw [en]; exact nr)
  rw [hp] at h1
  cases h1
  obtain ⟨rest, er⟩ := way_split W _ cu hcur n hw
  rw [way_step W h nr hp, List.append_assoc, List.singleton_append] at er
  have hno : n ∉ wayTo M.tree p := fun q => by
    have := way_le W p y h3 n q
    omega
  obtain ⟨t1, t2⟩ := takeW (wayTo M.tree p) rest n hno (nodeOf M.tree) (nodeOf_num M.tree)
  have ei := idx_split (wayTo M.tree p) rest n hno
  have et : (Ue03.changesOf (((wayTo M.tree p).map (nodeOf M.tree)).drop 1)).foldl Ue03.changed g.base = textOf M.tree p := by
    rw [← r.text W p y h3, ← r.path W h3]
    rfl
  have eb : changesBehind M.tree n = rest.flatMap (changesOf M.tree) := by
    unfold changesBehind
    rw [er, ei]
    congr 1
    have : wayTo M.tree p ++ n :: rest = (wayTo M.tree p ++ [n]) ++ rest := by rw [List.append_assoc]; rfl
    rw [this]
    have e2 : (wayTo M.tree p ++ [n]).length = (wayTo M.tree p).length + 1 := by rw [List.length_append, List.length_singleton]
    rw [← e2, List.drop_left]
  unfold Ue03.takesBack
  show (Ue03.passedAll (c.at_, c.in_.length) (Ue03.changesOf (((Ue03.path g g.now).dropWhile fun x => x.number != n).drop 1))).map (fun z => (⟨z.1, z.2, (((Ue03.changesOf (((Ue03.path g g.now).takeWhile fun x => x.number != n).drop 1)).foldl Ue03.changed g.base).drop c.at_).take c.out⟩ : Chg)) = _
  rw [r.now, r.path W hcur, er, t1, t2, et, List.map_cons, List.drop_succ_cons, List.drop_zero, changesOf_map, passedAll_eq]
  unfold reverting
  rw [en, eb]
  cases startBehindAll c.in_.length c.at_ (rest.flatMap (changesOf M.tree)) <;> rfl
theorem R.creat' (r : R g M) (W : WF M.tree) (hg : M.group = none) (l : List Chg) (t : List Nat) : R (Ue03.makes g l) { M with tree := create M.tree l t M.clock } := by
  have := r.creat W l t
  obtain ⟨T, k, q⟩ := M
  cases hg
  exact this
theorem par_root {T : Tr} (W : WF T) {x : Nd} (hx : x ∈ T.nodes) : x.parent.isNone = (x.number == T.root) := by
  by_cases e : x.number = T.root
  · obtain ⟨r', h1, h2⟩ := W.root
    have : x = r' := uniq W hx (mem_of_find h1).1 (by rw [e, (mem_of_find h1).2])
    rw [this, h2, ← this, e]
    simp
  · obtain ⟨q, y, h1, _⟩ := W.up x hx e
    rw [h1]
    symm
    simpa using e
theorem sim_takeback (r : R g M) (G : Good M) (n : Nat) : Sim (Ue03.step g (.takeback n)) (oRevert M n) := by
  obtain ⟨cu, hcur⟩ := G.wf.cur
  have e1 : Ue03.step g (.takeback n) = Ue03.alone g (match (M.tree.find n).map nd with
    | none => (g, [-2])
    | some x => if x.parent.isNone = true ∨ ((Ue03.path g g.now).any fun y => y.number == n) = false then (g, [-6]) else match x.changes with
      | [c] => (match Ue03.takesBack g n c with
        | none => (g, [-8])
        | some d => if Ue03.LONG < (Ue03.changed (Ue03.textNow g) d).length then (g, [-5]) else (Ue03.makes g [d], Ue03.«ints» [g.given, (Ue03.changed (Ue03.textNow g) d).length]))
      | _ => (g, [-4])) := by
    rw [← r.find]
    rfl
  rw [e1]
  unfold oRevert
  refine r.alon fun hg => ?_
  have etx : Ue03.textNow g = textOf M.tree M.tree.current := by
    rw [r.textNow G]
    unfold Se.textNow
    rw [hg]
  have eany : ((Ue03.path g g.now).any fun y => y.number == n) = (wayTo M.tree M.tree.current).contains n := by
    rw [r.now, r.path G.wf hcur, List.any_map, List.contains_eq_any_beq]
    congr 1
    funext k
    show ((nodeOf M.tree k).number == n) = (n == k)
    rw [nodeOf_num, Bool.eq_iff_iff]
    simp only [beq_iff_eq]
    exact eq_comm
  cases h : M.tree.find n with
  | none => exact ⟨rfl, r⟩
  | some x =>
    obtain ⟨m, en⟩ := mem_of_find h
    have hpr := par_root G.wf m
    rw [en] at hpr
    show Sim (if x.parent.isNone = true ∨ _ = false then _ else _) _
    rw [hpr, eany]
    by_cases c1 : n = M.tree.root ∨ (wayTo M.tree M.tree.current).contains n = false
    · rw [if_pos (show ((n == M.tree.root) = true ∨ _) from c1.imp (fun q => by simpa using q) id)]
      show Sim _ (if n = M.tree.root ∨ (wayTo M.tree M.tree.current).contains n = false then _ else _)
      rw [if_pos c1]
      exact ⟨rfl, r⟩
    · rw [if_neg (fun q => c1 (q.imp (fun q => by simpa using q) id))]
      have nr : n ≠ M.tree.root := fun q => c1 (.inl q)
      have hw : n ∈ wayTo M.tree M.tree.current := by
        cases ec : (wayTo M.tree M.tree.current).contains n with
        | true => exact List.contains_iff_mem.mp ec
        | false => exact absurd (.inr ec) c1
      obtain ⟨p, y, h1, h2, h3, h4, h5⟩ := G.wf.up x m (by rw [en]; exact nr)
      show Sim _ (if n = M.tree.root ∨ (wayTo M.tree M.tree.current).contains n = false then _ else _)
      rw [if_neg c1]
      show Sim (match x.changes with
        | [c] => _
        | _ => _) _
      cases ecs : x.changes with
      | nil => exact absurd ecs h5
      | cons c l =>
        cases l with
        | cons d l => exact ⟨rfl, r⟩
        | nil =>
          show Sim (match Ue03.takesBack g n c with
            | none => (g, [-8])
            | some d => if Ue03.LONG < (Ue03.changed (Ue03.textNow g) d).length then (g, [-5]) else (Ue03.makes g [d], Ue03.«ints» [g.given, (Ue03.changed (Ue03.textNow g) d).length])) (match x.parent with
            | none => (M, [])
            | some p => match reverting M.tree x p c with
              | none => (M, [-8])
              | some d => if 300 < (Ue03.changed (textOf M.tree M.tree.current) d).length then (M, [-5]) else ({ M with tree := create M.tree [d] (Ue03.changed (textOf M.tree M.tree.current) d) M.clock }, asInts [M.tree.coming, (Ue03.changed (textOf M.tree M.tree.current) d).length]))
          rw [h1, r.back G.wf h nr h1 hw c, etx]
          show Sim _ (match reverting M.tree x p c with
              | none => (M, [-8])
              | some d => if 300 < (Ue03.changed (textOf M.tree M.tree.current) d).length then (M, [-5]) else ({ M with tree := create M.tree [d] (Ue03.changed (textOf M.tree M.tree.current) d) M.clock }, asInts [M.tree.coming, (Ue03.changed (textOf M.tree M.tree.current) d).length]))
          cases reverting M.tree x p c with
          | none => exact ⟨rfl, r⟩
          | some d =>
            show Sim (if 300 < (Ue03.changed (textOf M.tree M.tree.current) d).length then _ else _) (if 300 < (Ue03.changed (textOf M.tree M.tree.current) d).length then _ else _)
            by_cases c2 : 300 < (Ue03.changed (textOf M.tree M.tree.current) d).length
            · rw [if_pos c2, if_pos c2]
              exact ⟨rfl, r⟩
            · rw [if_neg c2, if_neg c2]
              refine ⟨?_, r.creat' G.wf hg _ _⟩
              show Ue03.«ints» [g.given, _] = asInts [M.tree.coming, _]
              rw [r.given]
              rfl
end
end Ub
/-! # Forgetting; each call -/
namespace Ub
theorem find_congr' {A : Type} {p q : A → Bool} : ∀ (l : List A), (∀ x ∈ l, p x = q x) → l.find? p = l.find? q
  | [], _ => rfl
  | a :: l, h => by
    rw [List.find?_cons, List.find?_cons, h a (List.mem_cons_self ..), find_congr' l fun x hx => h x (List.mem_cons_of_mem _ hx)]
section
variable {g : Ue03.House} {M : Se}
theorem R.next (r : R g M) (W : WF M.tree) : Ue03.nextEnd g = (M.tree.nodes.find? (mayGo M.tree)).map nd := by
  unfold Ue03.nextEnd
  rw [r.nodes, List.find?_map]
  congr 1
  refine find_congr' _ fun x hx => ?_
  show ((Ue03.children g x.number).isEmpty && (x.parent.isSome && (x.number != g.now && !x.kept))) = _
  rw [r.kids W hx, r.now]
  have h := par_root W hx
  have h2 : x.parent.isSome = (x.number != M.tree.root) := by
    cases e : x.parent with
    | none => rw [e] at h; show false = !(x.number == M.tree.root); rw [← h]; rfl
    | some p => rw [e] at h; show true = !(x.number == M.tree.root); rw [← h]; rfl
  rw [h2]
  unfold mayGo
  cases x.children.isEmpty <;> cases x.kept <;> cases (x.number != M.tree.root) <;> cases (x.number != M.tree.current) <;> rfl
theorem go_head (T : Tr) : (leavesToGo T).head? = (T.nodes.find? (mayGo T)).map fun x => x.number := by
  unfold leavesToGo
  rw [List.head?_map, List.head?_filter]
theorem filter_map_nd (l : List Nd) (n : Nat) : (l.map nd).filter (fun y => y.number != n) = (l.filter fun x => x.number != n).map nd := by
  rw [List.filter_map]
  rfl
theorem R.away (r : R g M) (W : WF M.tree) {n : Nat} {x : Nd} (hx : M.tree.find n = some x) (nr : n ≠ M.tree.root) : R { g with nodes := g.nodes.filter fun y => y.number != n } { M with tree := takeAway M.tree n } := by
  obtain ⟨m, en⟩ := mem_of_find hx
  obtain ⟨p, y, h1, h2, h3, _⟩ := W.up x m (by rw [en]; exact nr)
  have e := takeAway_eq hx h1
  rw [e]
  refine ⟨?_, r.now, r.given, r.clock, r.group, ?_, fun z hz => ?_, r.lastLt⟩
  · show (g.nodes.filter fun y => y.number != n) = ((M.tree.upd p (delKid n)).nodes.filter fun x => x.number != n).map nd
    rw [← filter_map_nd, nodes_upd (f := delKid n) (fun _ => rfl), r.nodes]
  · show g.base = textOf { M.tree.upd p (delKid n) with nodes := (M.tree.upd p (delKid n)).nodes.filter fun x => x.number != n } M.tree.root
    have : textOf { M.tree.upd p (delKid n) with nodes := (M.tree.upd p (delKid n)).nodes.filter fun x => x.number != n } M.tree.root = textOf (M.tree.upd p (delKid n)) M.tree.root := by
      unfold textOf
      rw [find_filter nr.symm]
    rw [this, textOf_upd (nb_del n) (fun _ => rfl)]
    exact r.base
  · obtain ⟨z0, h0, rfl⟩ := mem_upd (List.mem_filter.mp hz).1
    rw [ite_numb (nb_del n)]
    have : (if z0.number = p then delKid n z0 else z0).visited = z0.visited := ite_al (g := fun x => x.visited) (f := delKid n) (fun _ => rfl) p z0
    rw [this]
    exact r.last z0 h0
theorem wl_sim : ∀ (f : Nat) {g : Ue03.House} {M : Se} (r : R g M) (W : WF M.tree) (n : Nat) (l : List Nat), (Ue03.lessEnds f g n l).2 = (woLeaves f M.tree n l).2 ∧ R (Ue03.lessEnds f g n l).1 { M with tree := (woLeaves f M.tree n l).1 } ∧ WF (woLeaves f M.tree n l).1
  | 0, g, M, r, W, n, l => ⟨rfl, r, W⟩
  | f + 1, g, M, r, W, n, l => by
    have el : g.nodes.length = M.tree.nodes.length := by rw [r.nodes, List.length_map]
    have hn := r.next W
    have hh := go_head M.tree
    unfold Ue03.lessEnds woLeaves
    rw [el, hn]
    by_cases c : M.tree.nodes.length ≤ n
    · rw [if_pos c, if_pos c]
      exact ⟨rfl, r, W⟩
    · rw [if_neg c, if_neg c]
      cases e : leavesToGo M.tree with
      | nil =>
        rw [e] at hh
        have : M.tree.nodes.find? (mayGo M.tree) = none := by
          cases e2 : M.tree.nodes.find? (mayGo M.tree) with
          | none => rfl
          | some x => rw [e2] at hh; cases hh
        rw [this]
        exact ⟨rfl, r, W⟩
      | cons k rest =>
        rw [e] at hh
        obtain ⟨x, e2, e3⟩ : ∃ x, M.tree.nodes.find? (mayGo M.tree) = some x ∧ x.number = k := by
          cases e2 : M.tree.nodes.find? (mayGo M.tree) with
          | none => rw [e2] at hh; cases hh
          | some x => rw [e2] at hh; exact ⟨x, rfl, by cases hh; rfl⟩
        rw [e2]
        obtain ⟨y, hy, leaf, nr, nc⟩ := lf_first W e
        subst e3
        exact wl_sim f (r.away W hy nr) (wf_takeAway W hy nr nc leaf) n (l ++ [x.number])
theorem R.rootAway (r : R g M) (W : WF M.tree) {q : Nd} {c : Nat} (hq : M.tree.find M.tree.root = some q) (hc : q.children = [c]) : R { g with base := Ue03.textAt g c, nodes := (g.nodes.filter fun y => y.number != M.tree.root).map fun y => if y.number = c then { y with parent := none, changes := [] } else y } { M with tree := takeRoot M.tree } := by
  obtain ⟨x, hx, hp, nc⟩ := root_kid W hq hc
  have e := takeRoot_eq hq hc
  rw [e]
  refine ⟨?_, r.now, r.given, r.clock, r.group, ?_, fun z hz => ?_, r.lastLt⟩
  · show ((g.nodes.filter fun y => y.number != M.tree.root).map fun y => if y.number = c then { y with parent := none, changes := [] } else y) = ((M.tree.upd c toRoot).nodes.filter fun x => x.number != M.tree.root).map nd
    rw [r.nodes, filter_map_nd]
    show _ = ((M.tree.nodes.map fun x => if x.number = c then toRoot x else x).filter fun x => x.number != M.tree.root).map nd
    rw [List.filter_map, List.map_map, List.map_map]
    have e1 : ((fun x : Nd => x.number != M.tree.root) ∘ fun x => if x.number = c then toRoot x else x) = fun x : Nd => x.number != M.tree.root := by
      funext u
      show ((if u.number = c then toRoot u else u).number != M.tree.root) = _
      rw [ite_numb nb_root]
    rw [e1]
    refine List.map_congr_left fun u _ => ?_
    show (if (nd u).number = c then { nd u with parent := none, changes := [] } else nd u) = nd (if u.number = c then toRoot u else u)
    by_cases e : u.number = c
    · rw [if_pos e, if_pos (show (nd u).number = c from e)]
      rfl
    · rw [if_neg e, if_neg (show ¬ (nd u).number = c from e)]
  · show Ue03.textAt g c = textOf { M.tree.upd c toRoot with root := c, nodes := (M.tree.upd c toRoot).nodes.filter fun x => x.number != M.tree.root } c
    have : textOf { M.tree.upd c toRoot with root := c, nodes := (M.tree.upd c toRoot).nodes.filter fun x => x.number != M.tree.root } c = textOf (M.tree.upd c toRoot) c := by
      unfold textOf
      have := find_filter (T := M.tree.upd c toRoot) (n := M.tree.root) (j := c) nc
      unfold Tr.find at this ⊢
      rw [this]
    rw [this, textOf_upd nb_root (fun _ => rfl)]
    exact r.text W c x hx
  · obtain ⟨z0, h0, rfl⟩ := mem_upd (List.mem_filter.mp hz).1
    rw [ite_numb nb_root]
    have : (if z0.number = c then toRoot z0 else z0).visited = z0.visited := ite_al (g := fun x => x.visited) (f := toRoot) (fun _ => rfl) c z0
    rw [this]
    exact r.last z0 h0
theorem wr_sim : ∀ (f : Nat) {g : Ue03.House} {M : Se} (r : R g M) (W : WF M.tree) (n : Nat) (a b : List Nat), (Ue03.lessFirst f g n (a ++ b)).2 = a ++ (woRoots f M.tree n b).2 ∧ R (Ue03.lessFirst f g n (a ++ b)).1 { M with tree := (woRoots f M.tree n b).1 } ∧ WF (woRoots f M.tree n b).1
  | 0, g, M, r, W, n, a, b => ⟨rfl, r, W⟩
  | f + 1, g, M, r, W, n, a, b => by
    have el : g.nodes.length = M.tree.nodes.length := by rw [r.nodes, List.length_map]
    obtain ⟨q, hq, hqp⟩ := W.root
    have ef : (g.nodes.find? fun x => x.parent.isNone) = some (nd q) := by
      rw [r.nodes, List.find?_map]
      have : M.tree.nodes.find? ((fun x : Ue03.Node => x.parent.isNone) ∘ nd) = M.tree.find M.tree.root := by
        unfold Tr.find
        exact find_congr' _ fun x hx => par_root W hx
      rw [this, hq]
      rfl
    obtain ⟨mq, eq⟩ := mem_of_find hq
    have hk : Ue03.children g (nd q).number = q.children := r.kids W mq
    have em : mayRootGo M.tree = (M.tree.root != M.tree.current && (!q.kept && q.children.length == 1)) := by
      unfold mayRootGo
      rw [hq]
    have eqn : (nd q).number = M.tree.root := eq
    unfold Ue03.lessFirst woRoots
    rw [el, ef]
    show ((if M.tree.nodes.length ≤ n then (g, a ++ b) else if (nd q).number = g.now ∨ (nd q).kept = true then (g, a ++ b) else match Ue03.children g (nd q).number with
      | [c] => Ue03.lessFirst f { g with base := Ue03.textAt g c, nodes := (g.nodes.filter fun y => y.number != (nd q).number).map fun y => if y.number = c then { y with parent := none, changes := [] } else y } n (a ++ b ++ [(nd q).number])
      | _ => (g, a ++ b)).2 = _ ∧ R (if M.tree.nodes.length ≤ n then (g, a ++ b) else if (nd q).number = g.now ∨ (nd q).kept = true then (g, a ++ b) else match Ue03.children g (nd q).number with
      | [c] => Ue03.lessFirst f { g with base := Ue03.textAt g c, nodes := (g.nodes.filter fun y => y.number != (nd q).number).map fun y => if y.number = c then { y with parent := none, changes := [] } else y } n (a ++ b ++ [(nd q).number])
      | _ => (g, a ++ b)).1 _ ∧ _)
    rw [hk, eqn, r.now]
    by_cases c : M.tree.nodes.length ≤ n
    · rw [if_pos c, if_pos c]
      exact ⟨rfl, r, W⟩
    · rw [if_neg c, if_neg c]
      by_cases c2 : M.tree.root = M.tree.current ∨ (nd q).kept = true
      · have : ¬ mayRootGo M.tree = true := by
          rw [em]
          rcases c2 with h | h
          · rw [h]; simp
          · rw [show q.kept = true from h]; simp
        rw [if_pos c2, if_neg this]
        exact ⟨rfl, r, W⟩
      · rw [if_neg c2]
        have n1 : M.tree.root ≠ M.tree.current := fun h => c2 (.inl h)
        have n2 : q.kept = false := by
          cases e : q.kept with
          | false => rfl
          | true => exact absurd (.inr e) c2
        match ek : q.children with
        | [] =>
          have : ¬ mayRootGo M.tree = true := by rw [em, ek]; simp
          rw [if_neg this]
          exact ⟨rfl, r, W⟩
        | k :: k2 :: rest =>
          have : ¬ mayRootGo M.tree = true := by rw [em, ek]; simp
          rw [if_neg this]
          exact ⟨rfl, r, W⟩
        | [k] =>
          have : mayRootGo M.tree = true := by rw [em, ek, n2]; simpa using n1
          rw [if_pos this]
          have ih := wr_sim f (r.rootAway W hq ek) (wf_takeRoot W hq ek n1) n a (b ++ [M.tree.root])
          rw [← List.append_assoc, r.now] at ih
          exact ih
theorem fg_sim (r : R g M) (W : WF M.tree) (n : Nat) : (Ue03.forgets g n).2 = (forgetT M.tree n).2 ∧ R (Ue03.forgets g n).1 { M with tree := (forgetT M.tree n).1 } ∧ WF (forgetT M.tree n).1 := by
  have el : g.nodes.length = M.tree.nodes.length := by rw [r.nodes, List.length_map]
  obtain ⟨h1, h2, h3⟩ := wl_sim M.tree.nodes.length r W n []
  have el2 : (Ue03.lessEnds M.tree.nodes.length g n []).1.nodes.length = (woLeaves M.tree.nodes.length M.tree n []).1.nodes.length := by rw [h2.nodes, List.length_map]
  have h4 := wr_sim (woLeaves M.tree.nodes.length M.tree n []).1.nodes.length h2 h3 n (woLeaves M.tree.nodes.length M.tree n []).2 []
  unfold Ue03.forgets forgetT
  show (Ue03.lessFirst (Ue03.lessEnds g.nodes.length g n []).1.nodes.length (Ue03.lessEnds g.nodes.length g n []).1 n (Ue03.lessEnds g.nodes.length g n []).2).2 = _ ∧ R (Ue03.lessFirst (Ue03.lessEnds g.nodes.length g n []).1.nodes.length (Ue03.lessEnds g.nodes.length g n []).1 n (Ue03.lessEnds g.nodes.length g n []).2).1 _ ∧ _
  rw [el, el2, h1]
  rw [List.append_nil] at h4
  exact h4
theorem sim_forget (r : R g M) (G : Good M) (n : Nat) : Sim (Ue03.step g (.forget n)) (oForget M n) := by
  show Sim (Ue03.alone g (if n = 0 then (g, [-1]) else ((Ue03.forgets g n).1, ((Ue03.forgets g n).2.length : Int) :: Ue03.«ints» (Ue03.forgets g n).2))) _
  unfold oForget
  refine r.alon fun _ => ?_
  by_cases e : n = 0
  · rw [if_pos e, if_pos e]
    exact ⟨rfl, r⟩
  · rw [if_neg e, if_neg e]
    obtain ⟨h1, h2, _⟩ := fg_sim r G.wf n
    refine ⟨?_, h2⟩
    show ((Ue03.forgets g n).2.length : Int) :: Ue03.«ints» (Ue03.forgets g n).2 = _
    rw [h1]
    rfl
theorem sim_step (r : R g M) (G : Good M) : ∀ c : Ue03.Call, Sim (Ue03.step g c) (stepM M c)
  | .begins t => sim_start r t
  | .wait t => sim_wait r t
  | .change ⟨p, o, w⟩ => sim_change r G p o w
  | .open_ => sim_open r G
  | .close => sim_close r G
  | .undo => sim_undo r G
  | .redo => sim_redo r G
  | .goto n => sim_goto r G n
  | .earlier n => sim_earlier r G n
  | .later n => sim_later r G n
  | .ago t => sim_ago r G t
  | .shows => sim_shows r G
  | .state n => sim_info r G n
  | .ends => sim_ends r G
  | .way a b => sim_way r G a b
  | .origin => sim_origin r G
  | .takeback n => sim_takeback r G n
  | .keep n k => sim_keep r G n k
  | .forget n => sim_forget r G n
  | .text n => sim_text r G n
end
end Ub
/-! # What each call keeps -/
namespace Ub
theorem Bd.mono {B : Nat} {T : Tr} (b : Bd B T) : Bd (B + 1) T := ⟨by have := b.coming; omega, fun x hx => by have := b.many x hx; omega⟩
theorem GBd.mono {B : Nat} {M : Se} (b : GBd B M) : GBd (B + 1) M := ⟨b.tree.mono, fun cs t h => by have := b.group cs t h; omega⟩
theorem bd_upd {B : Nat} {T : Tr} (b : Bd B T) {f : Nd → Nd} (hf : ∀ x, (f x).changes.length ≤ x.changes.length) (k : Nat) : Bd B (T.upd k f) := by
  refine ⟨b.coming, fun y hy => ?_⟩
  obtain ⟨x, hx, rfl⟩ := mem_upd hy
  have h1 := b.many x hx
  have h2 := hf x
  by_cases e : x.number = k
  · rw [if_pos e]
    omega
  · rw [if_neg e]
    exact h1
theorem bd_filter {B : Nat} {T : Tr} (b : Bd B T) (p : Nd → Bool) : Bd B { T with nodes := T.nodes.filter p } := ⟨b.coming, fun x hx => b.many x (List.mem_filter.mp hx).1⟩
theorem bd_mark {B : Nat} : ∀ (l : List (Nat × Nat)) {T : Tr}, Bd B T → Bd B (mark T l)
  | [], _, b => b
  | p :: l, T, b => bd_mark l (bd_upd b (f := setVis p.2) (fun _ => Nat.le_refl _) p.1)
theorem bd_visit {B : Nat} {T : Tr} (b : Bd B T) (n : Nat) : Bd B (visit T n) := by
  have := bd_mark ((wayTo T n).zip (wayTo T n).tail) b
  exact ⟨this.coming, this.many⟩
theorem bd_away {B : Nat} {T : Tr} (b : Bd B T) (n : Nat) : Bd B (takeAway T n) := by
  unfold takeAway
  cases (T.find n).bind fun x => x.parent with
  | none => exact b
  | some p => exact bd_filter (bd_upd b (f := delKid n) (fun _ => Nat.le_refl _) p) _
theorem bd_rootAway {B : Nat} {T : Tr} (b : Bd B T) : Bd B (takeRoot T) := by
  unfold takeRoot
  cases (T.find T.root).bind fun x => x.children.head? with
  | none => exact b
  | some c =>
    have := bd_filter (bd_upd b (f := toRoot) (fun _ => Nat.zero_le _) c) (fun x => x.number != T.root)
    exact ⟨this.coming, this.many⟩
theorem bd_wl {B : Nat} : ∀ (f : Nat) {T : Tr} (n : Nat) (l : List Nat), Bd B T → Bd B (woLeaves f T n l).1
  | 0, T, n, l, b => b
  | f + 1, T, n, l, b => by
    unfold woLeaves
    by_cases c : T.nodes.length ≤ n
    · rw [if_pos c]
      exact b
    · rw [if_neg c]
      cases leavesToGo T with
      | nil => exact b
      | cons k r => exact bd_wl f n _ (bd_away b k)
theorem bd_wr {B : Nat} : ∀ (f : Nat) {T : Tr} (n : Nat) (l : List Nat), Bd B T → Bd B (woRoots f T n l).1
  | 0, T, n, l, b => b
  | f + 1, T, n, l, b => by
    unfold woRoots
    by_cases c : T.nodes.length ≤ n
    · rw [if_pos c]
      exact b
    · rw [if_neg c]
      by_cases c2 : mayRootGo T = true
      · rw [if_pos c2]
        exact bd_wr f n _ (bd_rootAway b)
      · rw [if_neg c2]
        exact b
theorem bd_create {B : Nat} {T : Tr} (b : Bd B T) {cs : List Chg} (t : List Nat) (time : Nat) (h : cs.length ≤ B + 1) : Bd (B + 1) (create T cs t time) := by
  refine ⟨?_, fun y hy => ?_⟩
  · show T.coming + 1 ≤ B + 1 + 1
    have := b.coming
    omega
  · rw [create_nodes] at hy
    obtain ⟨x, hx, rfl⟩ := List.mem_map.mp hy
    have : (if x.number = T.current then addKid T.coming x else x).changes = x.changes := ite_al (g := fun x => x.changes) (f := addKid T.coming) (fun _ => rfl) T.current x
    rw [this]
    rcases List.mem_append.mp hx with h1 | h1
    · have := b.many x h1
      omega
    · have e : x = newNd T cs t time := by simpa using h1
      subst e
      exact h
def Kept (B : Nat) (M : Se) : Prop := Good M ∧ GBd B M
def rowOk : Ue03.Call → Prop
  | .begins t => t.length ≤ 350
  | .change c => c.in_.length ≤ 350
  | _ => True
theorem Kept.mono {B : Nat} {M : Se} (h : Kept B M) : Kept (B + 1) M := ⟨h.1, h.2.mono⟩
theorem Kept.alone {B : Nat} {M : Se} (h : Kept B M) {x : Ans} (k : M.group = none → Kept (B + 1) x.1) : Kept (B + 1) (alone M x).1 := by
  unfold Ub.alone
  cases e : M.group with
  | none => exact k e
  | some q => exact h.mono
theorem kept_tree {B : Nat} {M : Se} (hg : M.group = none) {T : Tr} (W : WF T) (b : Bd B T) : Kept B { M with tree := T } := by
  have h : ∀ cs t, ¬ ({ M with tree := T } : Se).group = some (cs, t) := fun cs t q => by
    rw [show ({ M with tree := T } : Se).group = M.group from rfl, hg] at q
    cases q
  exact ⟨⟨W, fun cs t q => absurd q (h cs t)⟩, ⟨b, fun cs t q => absurd q (h cs t)⟩⟩
theorem kept_free {B : Nat} (k : Nat) {T : Tr} (W : WF T) (b : Bd B T) : Kept B ⟨T, k, none⟩ := ⟨⟨W, fun cs t q => by cases q⟩, ⟨b, fun cs t q => by cases q⟩⟩
theorem Kept.moved {B : Nat} {M : Se} (h : Kept B M) (hg : M.group = none) {n : Nat} {x : Nd} (hx : M.tree.find n = some x) : Kept (B + 1) (movedTo M n).1 :=
  kept_tree hg (wf_visit h.1.wf hx) (bd_visit h.2.tree.mono n)
theorem Kept.among {B : Nat} {M : Se} (h : Kept B M) (l : List Nat) (n : Nat) (hm : ∀ k ∈ l, ∃ x, M.tree.find k = some x) : Kept (B + 1) (movedAmong M l n).1 := by
  unfold movedAmong
  refine h.alone fun hg => ?_
  by_cases c : n = 0
  · rw [if_pos c]
    exact h.mono
  · rw [if_neg c]
    cases e : l[n - 1]? with
    | none => exact h.mono
    | some k =>
      obtain ⟨x, hx⟩ := hm k (List.mem_of_getElem? e)
      exact h.moved hg hx
theorem kept_init : Kept 0 Se.init := kept_free 0 (wf_fresh (Nat.zero_le _)) ⟨Nat.le_refl _, fun x hx => by
  have ex : x = ⟨0, none, [], [], 0, false, [], none⟩ := by simpa [Tr.fresh] using hx
  subst ex
  exact Nat.le_refl _⟩
theorem kept_change {B : Nat} {M : Se} (h : Kept B M) (p o : Nat) (w : List Nat) (hw : w.length ≤ 350) : Kept (B + 1) (oChange M p o w).1 := by
  have e0 : oChange M p o w = if M.textNow.length < p + o ∨ areBytes w = false then (M, [-1]) else if 300 < (Ue03.changed M.textNow ⟨p, o, w⟩).length then (M, [-6]) else match M.group with
    | none => ({ M with tree := create M.tree [⟨p, o, w⟩] (Ue03.changed M.textNow ⟨p, o, w⟩) M.clock }, asInts [M.tree.coming, (Ue03.changed M.textNow ⟨p, o, w⟩).length])
    | some g => ({ M with group := some (g.1 ++ [⟨p, o, w⟩], Ue03.changed M.textNow ⟨p, o, w⟩) }, asInts [M.tree.coming, (Ue03.changed M.textNow ⟨p, o, w⟩).length]) := by
    unfold oChange
    cases M.group <;> rfl
  rw [e0]
  by_cases c1 : M.textNow.length < p + o ∨ areBytes w = false
  · rw [if_pos c1]
    exact h.mono
  · rw [if_neg c1]
    by_cases c2 : 300 < (Ue03.changed M.textNow ⟨p, o, w⟩).length
    · rw [if_pos c2]
      exact h.mono
    · rw [if_neg c2]
      obtain ⟨T, k, q⟩ := M
      cases q with
      | none =>
        refine kept_free k (wf_create h.1.wf k rfl (by
          show (Ue03.changed (textOf T T.current) ⟨p, o, w⟩).length ≤ 300
          have : ¬ 300 < (Ue03.changed (textOf T T.current) ⟨p, o, w⟩).length := c2
          omega) (by simp) (fun c hc => ?_)) (bd_create h.2.tree _ _ (by show 1 ≤ B + 1; omega))
        have : c = ⟨p, o, w⟩ := by simpa using hc
        subst this
        exact hw
      | some q =>
        obtain ⟨cs, t⟩ := q
        obtain ⟨g1, g2, g3⟩ := h.1.group cs t rfl
        have g4 := h.2.group cs t rfl
        refine ⟨⟨h.1.wf, fun cs' t' e => ?_⟩, ⟨h.2.tree.mono, fun cs' t' e => ?_⟩⟩
        · cases e
          refine ⟨?_, ?_, fun c hc => ?_⟩
          · show Ue03.changed t ⟨p, o, w⟩ = List.foldl Ue03.changed (textOf T T.current) (cs ++ [(⟨p, o, w⟩ : Chg)])
            have g1' : t = cs.foldl Ue03.changed (textOf T T.current) := g1
            rw [List.foldl_append, ← g1']
            rfl
          · show (Ue03.changed t ⟨p, o, w⟩).length ≤ 300
            have : ¬ 300 < (Ue03.changed t ⟨p, o, w⟩).length := c2
            omega
          · rcases List.mem_append.mp hc with h1 | h1
            · exact g3 c h1
            · have : c = ⟨p, o, w⟩ := by simpa using h1
              subst this
              exact hw
        · cases e
          show (cs ++ [_]).length ≤ B + 1
          rw [List.length_append, List.length_singleton]
          omega
theorem kept_close {B : Nat} {M : Se} (h : Kept B M) : Kept (B + 1) (oClose M).1 := by
  obtain ⟨T, k, q⟩ := M
  cases q with
  | none => exact h.mono
  | some q =>
    obtain ⟨cs, t⟩ := q
    obtain ⟨g1, g2, g3⟩ := h.1.group cs t rfl
    have g4 := h.2.group cs t rfl
    show Kept (B + 1) (if cs.isEmpty = true then ((⟨T, k, none⟩ : Se), asInts [T.current]) else (⟨create T cs t k, k, none⟩, asInts [T.coming])).1
    by_cases c : cs.isEmpty = true
    · rw [if_pos c]
      exact kept_free k h.1.wf h.2.tree.mono
    · rw [if_neg c]
      exact kept_free k (wf_create h.1.wf k g1 g2 (fun z => c (by rw [z]; rfl)) g3) (bd_create h.2.tree _ _ (by omega))
theorem kept_revert {B : Nat} {M : Se} (h : Kept B M) (n : Nat) : Kept (B + 1) (oRevert M n).1 := by
  unfold oRevert
  refine h.alone fun hg => ?_
  cases hx : M.tree.find n with
  | none => exact h.mono
  | some x =>
    show Kept (B + 1) (if n = M.tree.root ∨ (wayTo M.tree M.tree.current).contains n = false then (M, [-6]) else match x.changes with
      | [] => (M, [])
      | c :: l => if l.isEmpty = false then (M, [-4]) else match x.parent with
        | none => (M, [])
        | some p => match reverting M.tree x p c with
          | none => (M, [-8])
          | some d => if 300 < (Ue03.changed (textOf M.tree M.tree.current) d).length then (M, [-5]) else ({ M with tree := create M.tree [d] (Ue03.changed (textOf M.tree M.tree.current) d) M.clock }, asInts [M.tree.coming, (Ue03.changed (textOf M.tree M.tree.current) d).length])).1
    by_cases c1 : n = M.tree.root ∨ (wayTo M.tree M.tree.current).contains n = false
    · rw [if_pos c1]
      exact h.mono
    · rw [if_neg c1]
      cases x.changes with
      | nil => exact h.mono
      | cons c l =>
        show Kept (B + 1) (if l.isEmpty = false then (M, [-4]) else match x.parent with
          | none => (M, [])
          | some p => match reverting M.tree x p c with
            | none => (M, [-8])
            | some d => if 300 < (Ue03.changed (textOf M.tree M.tree.current) d).length then (M, [-5]) else ({ M with tree := create M.tree [d] (Ue03.changed (textOf M.tree M.tree.current) d) M.clock }, asInts [M.tree.coming, (Ue03.changed (textOf M.tree M.tree.current) d).length])).1
        by_cases c2 : l.isEmpty = false
        · rw [if_pos c2]
          exact h.mono
        · rw [if_neg c2]
          cases x.parent with
          | none => exact h.mono
          | some p =>
            show Kept (B + 1) (match reverting M.tree x p c with
              | none => (M, [-8])
              | some d => if 300 < (Ue03.changed (textOf M.tree M.tree.current) d).length then (M, [-5]) else ({ M with tree := create M.tree [d] (Ue03.changed (textOf M.tree M.tree.current) d) M.clock }, asInts [M.tree.coming, (Ue03.changed (textOf M.tree M.tree.current) d).length])).1
            cases er : reverting M.tree x p c with
            | none => exact h.mono
            | some d =>
              have hd : d.in_ = cutOut (textOf M.tree p) c := by
                unfold reverting at er
                cases es : startBehindAll c.in_.length c.at_ (changesBehind M.tree x.number) with
                | none => rw [es] at er; cases er
                | some s => rw [es] at er; cases er; rfl
              have hl : d.in_.length ≤ 350 := by
                rw [hd]
                unfold cutOut
                have h1 : (textOf M.tree p).length ≤ 300 := by
                  unfold textOf
                  cases ep : M.tree.find p with
                  | none => exact Nat.zero_le _
                  | some y => exact h.1.wf.len y (mem_of_find ep).1
                rw [List.length_take, List.length_drop]
                omega
              show Kept (B + 1) (if 300 < (Ue03.changed (textOf M.tree M.tree.current) d).length then (M, [-5]) else ({ M with tree := create M.tree [d] (Ue03.changed (textOf M.tree M.tree.current) d) M.clock }, asInts [M.tree.coming, (Ue03.changed (textOf M.tree M.tree.current) d).length])).1
              by_cases c3 : 300 < (Ue03.changed (textOf M.tree M.tree.current) d).length
              · rw [if_pos c3]
                exact h.mono
              · rw [if_neg c3]
                refine kept_tree hg (wf_create h.1.wf M.clock rfl (by
                  show (Ue03.changed (textOf M.tree M.tree.current) d).length ≤ 300
                  omega) (by simp) (fun e he => ?_)) (bd_create h.2.tree _ _ (by show 1 ≤ B + 1; omega))
                have : e = d := by simpa using he
                subst this
                exact hl
theorem kept_step {B : Nat} {g : Ue03.House} {M : Se} (r : R g M) (h : Kept B M) : ∀ c : Ue03.Call, rowOk c → Kept (B + 1) (stepM M c).1
  | .begins t, hr => by
    show Kept (B + 1) (if 300 < t.length ∨ areBytes t = false then (M, [-1]) else ((⟨Tr.fresh t, 0, none⟩ : Se), asInts [t.length])).1
    by_cases c : 300 < t.length ∨ areBytes t = false
    · rw [if_pos c]
      exact h.mono
    · rw [if_neg c]
      refine kept_free 0 (wf_fresh (by
        have : ¬ 300 < t.length := fun q => c (.inl q)
        omega)) ⟨by show 1 ≤ B + 1 + 1; omega, fun x hx => ?_⟩
      have ex : x = ⟨0, none, [], t, 0, false, [], none⟩ := by simpa [Tr.fresh] using hx
      subst ex
      exact Nat.zero_le _
  | .wait t, hr => by
    show Kept (B + 1) (if 1000000 < M.clock + t then (M, [-1]) else ({ M with clock := M.clock + t }, asInts [M.clock + t])).1
    by_cases c : 1000000 < M.clock + t
    · rw [if_pos c]
      exact h.mono
    · rw [if_neg c]
      exact ⟨⟨h.1.wf, h.1.group⟩, ⟨h.2.mono.tree, h.2.mono.group⟩⟩
  | .change ⟨p, o, w⟩, hr => kept_change h p o w hr
  | .open_, hr => by
    obtain ⟨T, k, q⟩ := M
    cases q with
    | some q => exact h.mono
    | none =>
      refine ⟨⟨h.1.wf, fun cs t e => ?_⟩, ⟨h.2.tree.mono, fun cs t e => ?_⟩⟩
      · cases e
        refine ⟨rfl, ?_, fun c hc => by cases hc⟩
        obtain ⟨c, hcur⟩ := h.1.wf.cur
        show (textOf T T.current).length ≤ 300
        rw [textOf_of hcur]
        exact h.1.wf.len c (mem_of_find hcur).1
      · cases e
        exact Nat.zero_le _
  | .close, hr => kept_close h
  | .undo, hr => by
    obtain ⟨c, hcur⟩ := h.1.wf.cur
    show Kept (B + 1) (oUndo M).1
    unfold oUndo
    refine h.alone fun hg => ?_
    by_cases e : M.tree.current = M.tree.root
    · rw [if_pos e]
      exact h.mono
    · rw [if_neg e, hcur]
      obtain ⟨m, en⟩ := mem_of_find hcur
      obtain ⟨p, y, h1, h2, h3, _⟩ := h.1.wf.up c m (by rw [en]; exact e)
      show Kept (B + 1) (match c.parent with | some p => ({ M with tree := { M.tree with current := p } }, toldHere { M.tree with current := p }) | none => (M, [])).1
      rw [h1]
      exact kept_tree hg (wf_cur h.1.wf h3) ⟨h.2.tree.mono.coming, h.2.tree.mono.many⟩
  | .redo, hr => by
    obtain ⟨c, hcur⟩ := h.1.wf.cur
    show Kept (B + 1) (oRedo M).1
    unfold oRedo
    refine h.alone fun hg => ?_
    rw [hcur]
    show Kept (B + 1) (if c.children.isEmpty = true then (M, [-7]) else ({ M with tree := redoT M.tree c }, toldHere (redoT M.tree c))).1
    by_cases e : c.children.isEmpty = true
    · rw [if_pos e]
      exact h.mono
    · rw [if_neg e]
      have hne : c.children ≠ [] := fun z => e (by rw [z]; rfl)
      obtain ⟨y, hy, _⟩ := kid_mem h.1.wf (mem_of_find hcur).1 (preferred_mem hne)
      have W1 := wf_upd h.1.wf (al_vis c.preferred) M.tree.current
      have b1 := bd_upd h.2.tree.mono (f := setVis c.preferred) (fun _ => Nat.le_refl _) M.tree.current
      exact kept_tree hg (wf_cur W1 (find_upd_some (nb_vis c.preferred) M.tree.current hy)) ⟨b1.coming, b1.many⟩
  | .goto n, hr => by
    show Kept (B + 1) (oGoto M n).1
    unfold oGoto
    refine h.alone fun hg => ?_
    by_cases e : M.tree.has n = true
    · rw [if_pos e]
      obtain ⟨x, hx⟩ := has_iff.mp e
      exact h.moved hg hx
    · rw [if_neg e]
      exact h.mono
  | .earlier n, hr => h.among _ n fun k hk => mem_nums.mp (List.mem_filter.mp (List.mem_reverse.mp hk)).1
  | .later n, hr => h.among _ n fun k hk => mem_nums.mp (List.mem_filter.mp hk).1
  | .ago t, hr => h.among _ 1 fun k hk => by
    have hm := List.mem_reverse.mp hk
    unfold agoL at hm
    obtain ⟨x, hx, rfl⟩ := List.mem_map.mp hm
    exact ⟨x, h.1.wf.find (List.mem_filter.mp hx).1⟩
  | .shows, hr => h.mono
  | .state n, hr => by
    show Kept (B + 1) (oInfo M n).1
    unfold oInfo
    cases M.tree.find n <;> exact h.mono
  | .ends, hr => h.mono
  | .way a b, hr => by
    show Kept (B + 1) (oPath M a b).1
    unfold oPath
    by_cases c : M.tree.has a = true ∧ M.tree.has b = true
    · rw [if_pos c]
      exact h.mono
    · rw [if_neg c]
      exact h.mono
  | .origin, hr => h.alone fun _ => h.mono
  | .takeback n, hr => kept_revert h n
  | .keep n k, hr => by
    show Kept (B + 1) (oKeep M n k).1
    unfold oKeep
    by_cases c : M.tree.has n = true
    · rw [if_pos c]
      refine ⟨⟨wf_upd h.1.wf (al_kept k) n, fun cs t e => ?_⟩, ⟨bd_upd h.2.tree.mono (f := setKept k) (fun _ => Nat.le_refl _) n, h.2.mono.group⟩⟩
      obtain ⟨g1, g2, g3⟩ := h.1.group cs t e
      refine ⟨?_, g2, g3⟩
      show t = cs.foldl Ue03.changed (textOf (M.tree.upd n (setKept k)) M.tree.current)
      rw [textOf_upd (nb_kept k) (fun _ => rfl)]
      exact g1
    · rw [if_neg c]
      exact h.mono
  | .forget n, hr => by
    show Kept (B + 1) (oForget M n).1
    unfold oForget
    refine h.alone fun hg => ?_
    by_cases e : n = 0
    · rw [if_pos e]
      exact h.mono
    · rw [if_neg e]
      exact kept_tree hg (fg_sim r h.1.wf n).2.2 (bd_wr _ n _ (bd_wl _ n _ h.2.tree.mono))
  | .text n, hr => by
    show Kept (B + 1) (oText M n).1
    unfold oText
    by_cases c : M.tree.has n = true
    · rw [if_pos c]
      exact h.mono
    · rw [if_neg c]
      exact h.mono
end Ub
/-! # The request's list by the document; the law -/
namespace Ub
def castL (l : List Nat) : List Int := l.map fun (n : Nat) => (n : Int)
theorem castL_toNat (l : List Nat) : (castL l).map Int.toNat = l := by
  unfold castL
  rw [List.map_map]
  have : (Int.toNat ∘ fun (n : Nat) => (n : Int)) = id := by
    funext n
    rfl
  rw [this, List.map_id]
theorem castL_of {l : List Int} (h : ∀ x ∈ l, 0 ≤ x) : castL (l.map Int.toNat) = l := by
  unfold castL
  rw [List.map_map]
  have : List.map ((fun (n : Nat) => (n : Int)) ∘ Int.toNat) l = List.map id l := List.map_congr_left fun x hx => by
    have := h x hx
    show ((x.toNat : Nat) : Int) = x
    omega
  rw [this, List.map_id]
theorem shape_nat (q : Nat) : PyUe03.shape (q : Int) = match arity[q]? with
  | none => none
  | some n => some (n, if q = 0 ∨ q = 2 then 1 else 0) := by
  match q with
  | 0 | 1 | 2 | 3 | 4 | 5 | 6 | 7 | 8 | 9 | 10 | 11 | 12 | 13 | 14 | 15 | 16 | 17 | 18 | 19 => rfl
  | q + 20 =>
    have : arity[q + 20]? = none := List.getElem?_eq_none (by show 20 ≤ q + 20; omega)
    rw [this]
    unfold PyUe03.shape
    repeat rw [if_neg (by omega)]
inductive Both {A B : Type} (P : A → B → Prop) : List A → List B → Prop
  | nil : Both P [] []
  | cons (a : A) (b : B) (as : List A) (bs : List B) (h : P a b) (t : Both P as bs) : Both P (a :: as) (b :: bs)
/-- a call of the list is the call cut out -/
def Rel (c : List (List Int)) (r : Raw) : Prop := arity[r.num]? = some r.nums.length ∧ ((r.num = 0 ∨ r.num = 2) ∧ c = [castL (r.num :: r.nums), castL r.row] ∨ (r.num ≠ 0 ∧ r.num ≠ 2) ∧ r.row = [] ∧ c = [castL (r.num :: r.nums)])
theorem castL_take (l : List Nat) (n : Nat) : (castL l).take n = castL (l.take n) := List.map_take.symm
theorem castL_drop (l : List Nat) (n : Nat) : (castL l).drop n = castL (l.drop n) := List.map_drop.symm
theorem castL_len (l : List Nat) : (castL l).length = l.length := List.length_map ..
theorem drop_cons {L : List Nat} {pos q : Nat} {l : List Nat} (h : L.drop pos = q :: l) : L[pos]? = some q ∧ l = L.drop (pos + 1) := by
  have h1 : (L.drop pos)[0]? = some q := by rw [h]; rfl
  rw [List.getElem?_drop] at h1
  refine ⟨h1, ?_⟩
  rw [← List.drop_drop, h]
  rfl
theorem cut_of (L : List Nat) : ∀ (f pos : Nat) (raw : List (List (List Int))), PyFlat.calls PyUe03.shape f (castL (L.drop pos)) = some raw → ∃ rs, Cut L pos rs ∧ Both Rel raw rs := by
  intro f
  induction f with
  | zero =>
    intro pos raw h
    cases e : L.drop pos with
    | nil =>
      rw [e] at h
      cases h
      exact ⟨[], .nil _ (List.drop_eq_nil_iff.mp e), .nil⟩
    | cons q l =>
      rw [e] at h
      cases h
  | succ f ih =>
    intro pos raw h
    cases e : L.drop pos with
    | nil =>
      rw [e] at h
      cases h
      exact ⟨[], .nil _ (List.drop_eq_nil_iff.mp e), .nil⟩
    | cons q l =>
      rw [e] at h
      obtain ⟨e1, e2⟩ := drop_cons e
      have h' : (match PyFlat.call PyUe03.shape ((q : Int) :: castL l) with
        | none => none
        | some (c, t) => match PyFlat.calls PyUe03.shape f t with
          | none => none
          | some cs => some (c :: cs)) = some raw := h
      have hc : PyFlat.call PyUe03.shape ((q : Int) :: castL l) = match PyUe03.shape (q : Int) with
        | none => none
        | some (n, k) => if (castL l).length < n then none else match PyFlat.rows k ((castL l).drop n) with
          | none => none
          | some (xs, t) => some (((q : Int) :: (castL l).take n) :: xs, t) := rfl
      rw [hc, shape_nat] at h'
      cases ea : arity[q]? with
      | none =>
        rw [ea] at h'
        cases h'
      | some n =>
        rw [ea] at h'
        have h2 : (match (if (castL l).length < n then none else match PyFlat.rows (if q = 0 ∨ q = 2 then 1 else 0) ((castL l).drop n) with
            | none => none
            | some (xs, t) => some (((q : Int) :: (castL l).take n) :: xs, t)) with
          | none => none
          | some (c, t) => match PyFlat.calls PyUe03.shape f t with
            | none => none
            | some cs => some (c :: cs)) = some raw := h'
        by_cases c1 : (castL l).length < n
        · rw [if_pos c1] at h2
          cases h2
        · rw [if_neg c1] at h2
          have hl : n ≤ l.length := by rw [castL_len] at c1; omega
          have htl : (l.take n).length = n := by rw [List.length_take]; omega
          have edr : l.drop n = L.drop (pos + 1 + n) := by rw [e2, List.drop_drop]
          by_cases c2 : q = 0 ∨ q = 2
          · rw [if_pos c2] at h2
            have hr : PyFlat.rows 1 ((castL l).drop n) = match PyFlat.row ((castL l).drop n) with
              | none => none
              | some (x, s) => some ([x], s) := by
              show (match PyFlat.row ((castL l).drop n) with
                | none => none
                | some (x, s) => match PyFlat.rows 0 s with
                  | none => none
                  | some (xs, t) => some (x :: xs, t)) = _
              cases PyFlat.row ((castL l).drop n) with
              | none => rfl
              | some z => rfl
            rw [hr, castL_drop, edr] at h2
            cases e3 : L.drop (pos + 1 + n) with
            | nil =>
              rw [e3] at h2
              cases h2
            | cons m l2 =>
              rw [e3] at h2
              obtain ⟨e4, e5⟩ := drop_cons e3
              have h3 : PyFlat.row (castL (m :: l2)) = if 0 ≤ (m : Int) ∧ (m : Int).toNat ≤ (castL l2).length then some ((castL l2).take (m : Int).toNat, (castL l2).drop (m : Int).toNat) else none := rfl
              rw [h3] at h2
              by_cases c3 : 0 ≤ (m : Int) ∧ (m : Int).toNat ≤ (castL l2).length
              · rw [if_pos c3] at h2
                have h4 : (match PyFlat.calls PyUe03.shape f ((castL l2).drop m) with
                  | none => none
                  | some cs => some ([(q : Int) :: (castL l).take n, (castL l2).take m] :: cs)) = some raw := h2
                rw [castL_drop, castL_take, castL_take, e5, List.drop_drop] at h4
                cases e6 : PyFlat.calls PyUe03.shape f (castL (L.drop (pos + 1 + n + 1 + m))) with
                | none =>
                  rw [e6] at h4
                  cases h4
                | some cs =>
                  rw [e6] at h4
                  cases h4
                  obtain ⟨rs, i1, i2⟩ := ih _ _ e6
                  refine ⟨_, .cons _ _ _ _ (.row q n m e1 ea c2 e4) i1, .cons _ _ _ _ ⟨?_, .inl ⟨c2, ?_⟩⟩ i2⟩
                  · show arity[q]? = some ((L.drop (pos + 1)).take n).length
                    rw [← e2, htl, ea]
                  · show [castL (q :: l.take n), _] = [castL (q :: (L.drop (pos + 1)).take n), _]
                    rw [← e2]
              · rw [if_neg c3] at h2
                cases h2
          · rw [if_neg c2] at h2
            have h4 : (match PyFlat.calls PyUe03.shape f ((castL l).drop n) with
              | none => none
              | some cs => some ([(q : Int) :: (castL l).take n] :: cs)) = some raw := h2
            rw [castL_drop, castL_take, edr] at h4
            cases e6 : PyFlat.calls PyUe03.shape f (castL (L.drop (pos + 1 + n))) with
            | none =>
              rw [e6] at h4
              cases h4
            | some cs =>
              rw [e6] at h4
              cases h4
              obtain ⟨rs, i1, i2⟩ := ih _ _ e6
              have c3 : q ≠ 0 ∧ q ≠ 2 := ⟨fun z => c2 (.inl z), fun z => c2 (.inr z)⟩
              refine ⟨_, .cons _ _ _ _ (.plain q n e1 ea c3) i1, .cons _ _ _ _ ⟨?_, .inr ⟨c3, rfl, ?_⟩⟩ i2⟩
              · show arity[q]? = some ((L.drop (pos + 1)).take n).length
                rw [← e2, htl, ea]
              · show [castL (q :: l.take n)] = [castL (q :: (L.drop (pos + 1)).take n)]
                rw [← e2]
theorem callOf_in {l : List Nat} {uc : Ue03.Call} (h : Ue03Neutral.callOf (castL l) = some uc) : Ue03Neutral.callIn l = some uc := by
  unfold Ue03Neutral.callOf at h
  rw [castL_toNat] at h
  by_cases c : (castL l).all Ue03Neutral.nat = false
  · rw [if_pos c] at h
    cases h
  · rw [if_neg c] at h
    exact h
theorem len0 {A : Type} {l : List A} (h : some 0 = some l.length) : l = [] := by
  cases l with
  | nil => rfl
  | cons a l => cases h
theorem len1 {A : Type} {l : List A} (h : some 1 = some l.length) : ∃ a, l = [a] := by
  match l, h with
  | [a], _ => exact ⟨a, rfl⟩
theorem len2 {A : Type} {l : List A} (h : some 2 = some l.length) : ∃ a b, l = [a, b] := by
  match l, h with
  | [a, b], _ => exact ⟨a, b, rfl⟩
theorem row_len {p : Int} {c : List (List Int)} {xs row : List Int} (hc : c = [p :: xs, row]) (hp : (PyUe03.bound p).2 = [(0, 4294967295, 0, 350)]) (h : PyInside.call PyUe03.bound c = true) : row.length ≤ 350 := by
  subst hc
  have h1 : (PyInside.each (PyUe03.bound p).1 xs && PyInside.lists (PyUe03.bound p).2 [row]) = true := h
  rw [hp] at h1
  have h2 : (PyInside.each (PyUe03.bound p).1 xs && (decide (0 ≤ row.length) && decide (row.length ≤ 350) && row.all (PyInside.within 0 4294967295) && true)) = true := h1
  simp only [Bool.and_eq_true, decide_eq_true_eq] at h2
  exact h2.2.1.1.2
theorem plainCall {num : Nat} {nums row : List Nat} {c : List (List Int)} {uc : Ue03.Call} (hr : row = []) (hc : c = [castL (num :: nums)]) (hw : PyUe03.whole c = [castL (num :: nums)]) (h : Ue03Neutral.callOf ((PyUe03.whole c).headD []) = some uc) : Ue03Neutral.callIn (num :: nums) = some uc := by
  rw [hw] at h
  exact callOf_in h
theorem call_of {c : List (List Int)} {r : Raw} {uc : Ue03.Call} (hr : Rel c r) (hb : PyInside.call PyUe03.bound c = true) (h : Ue03Neutral.callOf ((PyUe03.whole c).headD []) = some uc) : IsCall r.num r.nums r.row uc ∧ r.row.length ≤ 350 ∧ rowOk uc := by
  obtain ⟨num, nums, row⟩ := r
  obtain ⟨ha, hr⟩ := hr
  have ha' : arity[num]? = some nums.length := ha
  show IsCall num nums row uc ∧ row.length ≤ 350 ∧ rowOk uc
  rcases hr with ⟨h02, hc⟩ | ⟨n02, hrow, hc⟩
  · have hc' : c = [castL (num :: nums), castL row] := hc
    rcases h02 with z | z
    · have z' : num = 0 := z
      subst z'
      have := len0 ha'
      subst this
      have hl : row.length ≤ 350 := by
        have := row_len hc' rfl hb
        rw [castL_len] at this
        exact this
      subst hc'
      have h1 : Ue03Neutral.callIn (0 :: row) = some uc := callOf_in h
      cases h1
      exact ⟨.c0 row, hl, hl⟩
    · have z' : num = 2 := z
      subst z'
      obtain ⟨a, b, e⟩ := len2 ha'
      subst e
      have hl : row.length ≤ 350 := by
        have := row_len hc' rfl hb
        rw [castL_len] at this
        exact this
      subst hc'
      have h1 : Ue03Neutral.callIn (2 :: a :: b :: row) = some uc := callOf_in h
      cases h1
      exact ⟨.c2 a b row, hl, hl⟩
  · have hrow' : row = [] := hrow
    subst hrow'
    have hc' : c = [castL (num :: nums)] := hc
    subst hc'
    have n0 : num ≠ 0 := n02.1
    have n2 : num ≠ 2 := n02.2
    have hlt : num < 20 := by
      rcases Nat.lt_or_ge num 20 with z | z
      · exact z
      · rw [List.getElem?_eq_none (by show 20 ≤ num; exact z)] at ha'
        cases ha'
    have hn : num = 1 ∨ num = 3 ∨ num = 4 ∨ num = 5 ∨ num = 6 ∨ num = 7 ∨ num = 8 ∨ num = 9 ∨ num = 10 ∨ num = 11 ∨ num = 12 ∨ num = 13 ∨ num = 14 ∨ num = 15 ∨ num = 16 ∨ num = 17 ∨ num = 18 ∨ num = 19 := by omega
    clear hlt n0 n2 n02
    rcases hn with z | z | z | z | z | z | z | z | z | z | z | z | z | z | z | z | z | z <;> subst z
    · obtain ⟨a, e⟩ := len1 ha'
      subst e
      have h1 : Ue03Neutral.callIn [1, a] = some uc := callOf_in h
      cases h1
      exact ⟨.c1 a, Nat.zero_le _, trivial⟩
    · have := len0 ha'
      subst this
      have h1 : Ue03Neutral.callIn [3] = some uc := callOf_in h
      cases h1
      exact ⟨.c3, Nat.zero_le _, trivial⟩
    · have := len0 ha'
      subst this
      have h1 : Ue03Neutral.callIn [4] = some uc := callOf_in h
      cases h1
      exact ⟨.c4, Nat.zero_le _, trivial⟩
    · have := len0 ha'
      subst this
      have h1 : Ue03Neutral.callIn [5] = some uc := callOf_in h
      cases h1
      exact ⟨.c5, Nat.zero_le _, trivial⟩
    · have := len0 ha'
      subst this
      have h1 : Ue03Neutral.callIn [6] = some uc := callOf_in h
      cases h1
      exact ⟨.c6, Nat.zero_le _, trivial⟩
    · obtain ⟨a, e⟩ := len1 ha'
      subst e
      have h1 : Ue03Neutral.callIn [7, a] = some uc := callOf_in h
      cases h1
      exact ⟨.c7 a, Nat.zero_le _, trivial⟩
    · obtain ⟨a, e⟩ := len1 ha'
      subst e
      have h1 : Ue03Neutral.callIn [8, a] = some uc := callOf_in h
      cases h1
      exact ⟨.c8 a, Nat.zero_le _, trivial⟩
    · obtain ⟨a, e⟩ := len1 ha'
      subst e
      have h1 : Ue03Neutral.callIn [9, a] = some uc := callOf_in h
      cases h1
      exact ⟨.c9 a, Nat.zero_le _, trivial⟩
    · obtain ⟨a, e⟩ := len1 ha'
      subst e
      have h1 : Ue03Neutral.callIn [10, a] = some uc := callOf_in h
      cases h1
      exact ⟨.c10 a, Nat.zero_le _, trivial⟩
    · have := len0 ha'
      subst this
      have h1 : Ue03Neutral.callIn [11] = some uc := callOf_in h
      cases h1
      exact ⟨.c11, Nat.zero_le _, trivial⟩
    · obtain ⟨a, e⟩ := len1 ha'
      subst e
      have h1 : Ue03Neutral.callIn [12, a] = some uc := callOf_in h
      cases h1
      exact ⟨.c12 a, Nat.zero_le _, trivial⟩
    · have := len0 ha'
      subst this
      have h1 : Ue03Neutral.callIn [13] = some uc := callOf_in h
      cases h1
      exact ⟨.c13, Nat.zero_le _, trivial⟩
    · obtain ⟨a, b, e⟩ := len2 ha'
      subst e
      have h1 : Ue03Neutral.callIn [14, a, b] = some uc := callOf_in h
      cases h1
      exact ⟨.c14 a b, Nat.zero_le _, trivial⟩
    · have := len0 ha'
      subst this
      have h1 : Ue03Neutral.callIn [15] = some uc := callOf_in h
      cases h1
      exact ⟨.c15, Nat.zero_le _, trivial⟩
    · obtain ⟨a, e⟩ := len1 ha'
      subst e
      have h1 : Ue03Neutral.callIn [16, a] = some uc := callOf_in h
      cases h1
      exact ⟨.c16 a, Nat.zero_le _, trivial⟩
    · obtain ⟨a, b, e⟩ := len2 ha'
      subst e
      have h1 : Ue03Neutral.callIn [17, a, b] = some uc := callOf_in h
      have h2 : (if b = 0 then some (Ue03.Call.keep a false) else if b = 1 then some (Ue03.Call.keep a true) else none) = some uc := h1
      by_cases c0 : b = 0
      · rw [if_pos c0] at h2
        cases h2
        subst c0
        exact ⟨.c17 a 0 (.inl rfl), Nat.zero_le _, trivial⟩
      · rw [if_neg c0] at h2
        by_cases c1 : b = 1
        · rw [if_pos c1] at h2
          cases h2
          subst c1
          exact ⟨.c17 a 1 (.inr rfl), Nat.zero_le _, trivial⟩
        · rw [if_neg c1] at h2
          cases h2
    · obtain ⟨a, e⟩ := len1 ha'
      subst e
      have h1 : Ue03Neutral.callIn [18, a] = some uc := callOf_in h
      cases h1
      exact ⟨.c18 a, Nat.zero_le _, trivial⟩
    · obtain ⟨a, e⟩ := len1 ha'
      subst e
      have h1 : Ue03Neutral.callIn [19, a] = some uc := callOf_in h
      cases h1
      exact ⟨.c19 a, Nat.zero_le _, trivial⟩
theorem fit_of {B : Nat} {M : Se} (h : Kept B M) (hb : B ≤ 80) : Fit M := ⟨h.1, by have := h.2.tree.coming; show M.tree.coming ≤ 200; omega, fun x hx => by have := h.2.tree.many x hx; omega, fun cs t e => by have := h.2.group cs t e; omega⟩
theorem plays_of {raw : List (List (List Int))} {rs : List Raw} (hb : Both Rel raw rs) : ∀ (B : Nat) (g : Ue03.House) (M : Se), R g M → Kept B M → B + raw.length ≤ 80 → PyInside.calls PyUe03.bound raw = true → ((raw.map PyUe03.whole).map fun c => c.headD []).all Ue03Neutral.asked1 = true → ∃ cs, Plays M rs cs ∧ playM M cs = PyFlat.played (fun s c => Ue03Neutral.step s (c.headD [])) g (raw.map PyUe03.whole) := by
  induction hb with
  | nil => exact fun B g M _ _ _ _ _ => ⟨[], .nil M, rfl⟩
  | cons c r raw rs hr t ih =>
    intro B g M rr k hl hin hask
    rw [List.length_cons] at hl
    have hin' : (PyInside.call PyUe03.bound c && PyInside.calls PyUe03.bound raw) = true := hin
    have hask' : (Ue03Neutral.asked1 ((PyUe03.whole c).headD []) && ((raw.map PyUe03.whole).map fun c => c.headD []).all Ue03Neutral.asked1) = true := hask
    rw [Bool.and_eq_true] at hin' hask'
    obtain ⟨uc, huc⟩ := Option.isSome_iff_exists.mp hask'.1
    obtain ⟨h1, h2, h3⟩ := call_of hr hin'.1 huc
    obtain ⟨s1, s2⟩ := sim_step rr k.1 uc
    obtain ⟨cs, i1, i2⟩ := ih (B + 1) _ _ s2 (kept_step rr k uc h3) (by omega) hin'.2 hask'.2
    refine ⟨uc :: cs, .cons M r rs uc cs (fit_of k (by omega)) h1 h2 i1, ?_⟩
    have es : Ue03Neutral.step g ((PyUe03.whole c).headD []) = Ue03.step g uc := by
      unfold Ue03Neutral.step
      rw [huc]
    show (stepM M uc).2 :: playM (stepM M uc).1 cs = (Ue03Neutral.step g ((PyUe03.whole c).headD [])).2 :: PyFlat.played (fun s c => Ue03Neutral.step s (c.headD [])) (Ue03Neutral.step g ((PyUe03.whole c).headD [])).1 (raw.map PyUe03.whole)
    rw [es, i2, s1]
theorem r_init : R Ue03.init Se.init := by
  refine ⟨rfl, rfl, rfl, rfl, rfl, rfl, fun x hx => ?_, fun e he => by cases he⟩
  have ex : x = ⟨0, none, [], [], 0, false, [], none⟩ := by simpa [Se.init, Tr.fresh] using hx
  subst ex
  rfl
theorem law (ns : List Int) (hpos : ∀ x ∈ ns, 0 ≤ x) (ha : PyUe03.answers_asked ns = true) : ∃ rs cs, Cut (ns.map Int.toNat) 0 rs ∧ Plays Se.init rs cs ∧ toldM (playM Se.init cs) = PyUe03.answers ns ∧ (PyUe03.answers ns).length ≤ 10000000 := by
  unfold PyUe03.answers_asked at ha
  cases e : PyFlat.calls PyUe03.shape ns.length ns with
  | none =>
    rw [e] at ha
    cases ha
  | some raw =>
    rw [e] at ha
    have ha' : (!raw.isEmpty && PyFlat.atMost 80 raw && PyInside.calls PyUe03.bound raw && Ue03Neutral.asked ((raw.map PyUe03.whole).map fun c => c.headD []) && PyFlat.short 10000000 (PyUe03.answers ns)) = true := ha
    rw [Bool.and_eq_true, Bool.and_eq_true, Bool.and_eq_true, Bool.and_eq_true] at ha'
    obtain ⟨⟨⟨⟨_, h80⟩, hin⟩, hask⟩, hsh⟩ := ha'
    have h80' : raw.length ≤ 80 := of_decide_eq_true h80
    have hsh' : (PyUe03.answers ns).length ≤ 10000000 := of_decide_eq_true hsh
    unfold Ue03Neutral.asked at hask
    rw [Bool.and_eq_true] at hask
    obtain ⟨rs, h1, h2⟩ := cut_of (ns.map Int.toNat) ns.length 0 raw (by
      rw [List.drop_zero, castL_of hpos]
      exact e)
    obtain ⟨cs, h3, h4⟩ := plays_of h2 0 Ue03.init Se.init r_init kept_init (by omega) hin hask.1
    refine ⟨rs, cs, h1, h3, ?_, hsh'⟩
    rw [h4]
    unfold PyUe03.answers PyUe03.calls
    rw [e]
    rfl
end Ub
namespace Ub
open PySem L2
theorem vInts_of {l : List Int} (h : ∀ x ∈ l, 0 ≤ x) : l.map V.int = vInts (l.map Int.toNat) := by
  unfold vInts
  rw [List.map_map]
  refine List.map_congr_left fun x hx => ?_
  have := h x hx
  show V.int x = V.int ((x.toNat : Nat) : Int)
  congr 1
  omega
end Ub
open PySem PySem.W PyProof.Rows
set_option maxRecDepth 100000 in
set_option maxHeartbeats 0 in
theorem PySem.Challenge.cw_undobranches_s01_answers_holds : PySem.Challenge.rw_undobranches_s01_answers.Holds := by
  w_on; k_headS; (case hw => exact ⟨[.list [.int 3]], by decide +kernel, by decide +kernel⟩)
  k_fillS
  refine L2.walk_specK (r := PySem.Challenge.rw_undobranches_s01_answers) (k := 8) (CX := L2.CX0) (ps := ["calls"]) (sp := fun K => Ub.sp_answers K ⟨0, 0, 0, 0⟩) (by decide +kernel) rfl rfl ⟨rfl, by decide, by decide⟩ (fun w h Y => PySem.W.kIn_of Y) ?F ?S (fun _ _ _ _ z => z)
  case F =>
    intro w mg fa h Y KX G hmg
    refine' Ub.all_mk KX G hmg ?e_ch ?e_st ?e_tr ?e_se ?pg_ch ?hd_ch ?po_ch ?sa_ch ?mk_ch ?kc_ch ?pg_st ?hd_st ?po_st ?sa_st ?mk_st ?kc_st ?pg_tr ?hd_tr ?po_tr ?sa_tr ?mk_tr ?kc_tr ?pg_se ?hd_se ?po_se ?sa_se ?mk_se ?kc_se ?nf_position ?nf_removed ?nf_inserted ?nf_number ?nf_parent ?nf_changes ?nf_text ?nf_time ?nf_is_kept ?nf_children ?nf_visited ?nf_states ?nf_root ?nf_current ?nf_coming ?nf_tree ?nf_clock ?nf_is_open ?nf_grouped ?nf_draft ?z_len ?z_sorted ?z_list ?z_zip ?z_all ?z_int ?k_MOST_BYTES ?k_GREATEST_BYTE ?k_OVERLAPPED ?k_NOBODY ?k_OUT_OF_RANGE ?k_NO_STATE ?k_MANY_CHANGES ?k_LONG_REVERTED ?k_TOO_LONG ?k_NOT_ON_PATH ?k_NOWHERE ?k_OVERLAPS ?k_GROUP ?k_MOST_CLOCK ?e_NUMBERS ?l_NUMBERS ?q_NUMBERS ?e_WITH_ROW ?l_WITH_ROW ?q_WITH_ROW ?a_call_at ?l_call_at ?c_call_at ?k_call_at ?a_calls_in ?l_calls_in ?c_calls_in ?k_calls_in ?a_Tree_state ?i_Tree_state ?l_Tree_state ?c_Tree_state ?k_Tree_state ?a_Tree_has ?i_Tree_has ?l_Tree_has ?c_Tree_has ?k_Tree_has ?a_Session_text_of ?i_Session_text_of ?l_Session_text_of ?c_Session_text_of ?k_Session_text_of ?a_Tree_way_to ?i_Tree_way_to ?l_Tree_way_to ?c_Tree_way_to ?k_Tree_way_to ?a_exchanged ?l_exchanged ?c_exchanged ?k_exchanged ?a_origins_behind ?l_origins_behind ?c_origins_behind ?k_origins_behind ?a_origins_of ?l_origins_of ?c_origins_of ?k_origins_of ?a_Session_origins ?i_Session_origins ?l_Session_origins ?c_Session_origins ?k_Session_origins ?a_shared ?l_shared ?c_shared ?k_shared ?a_path_of ?l_path_of ?c_path_of ?k_path_of ?a_Session_path ?i_Session_path ?l_Session_path ?c_Session_path ?k_Session_path ?a_Tree_numbers ?i_Tree_numbers ?l_Tree_numbers ?c_Tree_numbers ?k_Tree_numbers ?a_Session_leaves ?i_Session_leaves ?l_Session_leaves ?c_Session_leaves ?k_Session_leaves ?a_Session_state_info ?i_Session_state_info ?l_Session_state_info ?c_Session_state_info ?k_Session_state_info ?a_Tree_here ?i_Tree_here ?l_Tree_here ?c_Tree_here ?k_Tree_here ?a_Session_text_now ?i_Session_text_now ?l_Session_text_now ?c_Session_text_now ?k_Session_text_now ?a_Session_get_text ?i_Session_get_text ?l_Session_get_text ?c_Session_get_text ?k_Session_get_text ?a_telling ?l_telling ?c_telling ?k_telling ?a_may_root_go ?l_may_root_go ?c_may_root_go ?k_may_root_go ?a_Tree_take_root_away ?i_Tree_take_root_away ?l_Tree_take_root_away ?c_Tree_take_root_away ?k_Tree_take_root_away ?a_without_roots ?l_without_roots ?c_without_roots ?k_without_roots ?a_may_go ?l_may_go ?c_may_go ?k_may_go ?a_leaves_to_go ?l_leaves_to_go ?c_leaves_to_go ?k_leaves_to_go ?a_Tree_take_away ?i_Tree_take_away ?l_Tree_take_away ?c_Tree_take_away ?k_Tree_take_away ?a_without_leaves ?l_without_leaves ?c_without_leaves ?k_without_leaves ?a_forget ?l_forget ?c_forget ?k_forget ?a_Session_forgotten ?i_Session_forgotten ?l_Session_forgotten ?c_Session_forgotten ?k_Session_forgotten ?a_Session_keep ?i_Session_keep ?l_Session_keep ?c_Session_keep ?k_Session_keep ?a_State_init ?i_State_init ?l_State_init ?c_State_init ?k_State_init ?a_Tree_create ?i_Tree_create ?l_Tree_create ?c_Tree_create ?k_Tree_create ?a_changed ?l_changed ?c_changed ?k_changed ?a_Change_init ?i_Change_init ?l_Change_init ?c_Change_init ?k_Change_init ?a_removed_bytes ?l_removed_bytes ?c_removed_bytes ?k_removed_bytes ?a_start_behind ?l_start_behind ?c_start_behind ?k_start_behind ?a_start_behind_all ?l_start_behind_all ?c_start_behind_all ?k_start_behind_all ?a_changes_behind ?l_changes_behind ?c_changes_behind ?k_changes_behind ?a_reverting ?l_reverting ?c_reverting ?k_reverting ?a_Session_why_not_reverted ?i_Session_why_not_reverted ?l_Session_why_not_reverted ?c_Session_why_not_reverted ?k_Session_why_not_reverted ?a_Session_revert ?i_Session_revert ?l_Session_revert ?c_Session_revert ?k_Session_revert ?a_Tree_visit ?i_Tree_visit ?l_Tree_visit ?c_Tree_visit ?k_Tree_visit ?a_steps_of ?l_steps_of ?c_steps_of ?k_steps_of ?a_Session_moved_to ?i_Session_moved_to ?l_Session_moved_to ?c_Session_moved_to ?k_Session_moved_to ?a_Session_moved_among ?i_Session_moved_among ?l_Session_moved_among ?c_Session_moved_among ?k_Session_moved_among ?a_Session_ago ?i_Session_ago ?l_Session_ago ?c_Session_ago ?k_Session_ago ?a_Session_later ?i_Session_later ?l_Session_later ?c_Session_later ?k_Session_later ?a_Session_earlier ?i_Session_earlier ?l_Session_earlier ?c_Session_earlier ?k_Session_earlier ?a_Session_go_to ?i_Session_go_to ?l_Session_go_to ?c_Session_go_to ?k_Session_go_to ?a_Session_told_here ?i_Session_told_here ?l_Session_told_here ?c_Session_told_here ?k_Session_told_here ?a_State_preferred ?i_State_preferred ?l_State_preferred ?c_State_preferred ?k_State_preferred ?a_Session_redo ?i_Session_redo ?l_Session_redo ?c_Session_redo ?k_Session_redo ?a_Session_undo ?i_Session_undo ?l_Session_undo ?c_Session_undo ?k_Session_undo ?a_Session_end_group ?i_Session_end_group ?l_Session_end_group ?c_Session_end_group ?k_Session_end_group ?a_Session_begin_group ?i_Session_begin_group ?l_Session_begin_group ?c_Session_begin_group ?k_Session_begin_group ?a_moving ?l_moving ?c_moving ?k_moving ?a_are_bytes ?l_are_bytes ?c_are_bytes ?k_are_bytes ?a_Session_change ?i_Session_change ?l_Session_change ?c_Session_change ?k_Session_change ?a_Session_wait ?i_Session_wait ?l_Session_wait ?c_Session_wait ?k_Session_wait ?a_Tree_init ?i_Tree_init ?l_Tree_init ?c_Tree_init ?k_Tree_init ?a_Session_start ?i_Session_start ?l_Session_start ?c_Session_start ?k_Session_start ?a_answer ?l_answer ?c_answer ?k_answer ?a_Session_init ?i_Session_init ?l_Session_init ?c_Session_init ?k_Session_init ?a_answers ?l_answers ?c_answers ?k_answers
    (case e_ch => k_is)
    (case e_st => k_is)
    (case e_tr => k_is)
    (case e_se => k_is)
    (case pg_ch => k_is)
    (case hd_ch => k_is)
    (case po_ch => k_is)
    (case sa_ch => k_is)
    (case mk_ch => k_is)
    (case kc_ch => k_is)
    (case pg_st => k_is)
    (case hd_st => k_is)
    (case po_st => k_is)
    (case sa_st => k_is)
    (case mk_st => k_is)
    (case kc_st => k_is)
    (case pg_tr => k_is)
    (case hd_tr => k_is)
    (case po_tr => k_is)
    (case sa_tr => k_is)
    (case mk_tr => k_is)
    (case kc_tr => k_is)
    (case pg_se => k_is)
    (case hd_se => k_is)
    (case po_se => k_is)
    (case sa_se => k_is)
    (case mk_se => k_is)
    (case kc_se => k_is)
    (case nf_position => k_is)
    (case nf_removed => k_is)
    (case nf_inserted => k_is)
    (case nf_number => k_is)
    (case nf_parent => k_is)
    (case nf_changes => k_is)
    (case nf_text => k_is)
    (case nf_time => k_is)
    (case nf_is_kept => k_is)
    (case nf_children => k_is)
    (case nf_visited => k_is)
    (case nf_states => k_is)
    (case nf_root => k_is)
    (case nf_current => k_is)
    (case nf_coming => k_is)
    (case nf_tree => k_is)
    (case nf_clock => k_is)
    (case nf_is_open => k_is)
    (case nf_grouped => k_is)
    (case nf_draft => k_is)
    (case z_len => k_is)
    (case z_sorted => k_is)
    (case z_list => k_is)
    (case z_zip => k_is)
    (case z_all => k_is)
    (case z_int => k_is)
    (case k_MOST_BYTES => k_is)
    (case k_GREATEST_BYTE => k_is)
    (case k_OVERLAPPED => k_is)
    (case k_NOBODY => k_is)
    (case k_OUT_OF_RANGE => k_is)
    (case k_NO_STATE => k_is)
    (case k_MANY_CHANGES => k_is)
    (case k_LONG_REVERTED => k_is)
    (case k_TOO_LONG => k_is)
    (case k_NOT_ON_PATH => k_is)
    (case k_NOWHERE => k_is)
    (case k_OVERLAPS => k_is)
    (case k_GROUP => k_is)
    (case k_MOST_CLOCK => k_is)
    (case e_NUMBERS => k_is)
    (case l_NUMBERS => k_is)
    (case q_NUMBERS => exact ⟨rfl, _, _, rfl, by decide, (.cons ⟨_, rfl⟩ (.cons ⟨_, rfl⟩ (.cons ⟨_, rfl⟩ (.cons ⟨_, rfl⟩ (.cons ⟨_, rfl⟩ (.cons ⟨_, rfl⟩ (.cons ⟨_, rfl⟩ (.cons ⟨_, rfl⟩ (.cons ⟨_, rfl⟩ (.cons ⟨_, rfl⟩ (.cons ⟨_, rfl⟩ (.cons ⟨_, rfl⟩ (.cons ⟨_, rfl⟩ (.cons ⟨_, rfl⟩ (.cons ⟨_, rfl⟩ (.cons ⟨_, rfl⟩ (.cons ⟨_, rfl⟩ (.cons ⟨_, rfl⟩ (.cons ⟨_, rfl⟩ (.cons ⟨_, rfl⟩ .nil))))))))))))))))))))⟩)
    (case e_WITH_ROW => k_is)
    (case l_WITH_ROW => k_is)
    (case q_WITH_ROW => exact ⟨rfl, _, _, rfl, by decide, (.cons ⟨_, rfl⟩ (.cons ⟨_, rfl⟩ .nil))⟩)
    (case a_call_at => k_is)
    (case l_call_at => k_is)
    (case c_call_at => k_is)
    (case k_call_at => k_is)
    (case a_calls_in => k_is)
    (case l_calls_in => k_is)
    (case c_calls_in => k_is)
    (case k_calls_in => k_is)
    (case a_Tree_state => k_is)
    (case i_Tree_state => k_is)
    (case l_Tree_state => k_is)
    (case c_Tree_state => k_is)
    (case k_Tree_state => k_is)
    (case a_Tree_has => k_is)
    (case i_Tree_has => k_is)
    (case l_Tree_has => k_is)
    (case c_Tree_has => k_is)
    (case k_Tree_has => k_is)
    (case a_Session_text_of => k_is)
    (case i_Session_text_of => k_is)
    (case l_Session_text_of => k_is)
    (case c_Session_text_of => k_is)
    (case k_Session_text_of => k_is)
    (case a_Tree_way_to => k_is)
    (case i_Tree_way_to => k_is)
    (case l_Tree_way_to => k_is)
    (case c_Tree_way_to => k_is)
    (case k_Tree_way_to => k_is)
    (case a_exchanged => k_is)
    (case l_exchanged => k_is)
    (case c_exchanged => k_is)
    (case k_exchanged => k_is)
    (case a_origins_behind => k_is)
    (case l_origins_behind => k_is)
    (case c_origins_behind => k_is)
    (case k_origins_behind => k_is)
    (case a_origins_of => k_is)
    (case l_origins_of => k_is)
    (case c_origins_of => k_is)
    (case k_origins_of => k_is)
    (case a_Session_origins => k_is)
    (case i_Session_origins => k_is)
    (case l_Session_origins => k_is)
    (case c_Session_origins => k_is)
    (case k_Session_origins => k_is)
    (case a_shared => k_is)
    (case l_shared => k_is)
    (case c_shared => k_is)
    (case k_shared => k_is)
    (case a_path_of => k_is)
    (case l_path_of => k_is)
    (case c_path_of => k_is)
    (case k_path_of => k_is)
    (case a_Session_path => k_is)
    (case i_Session_path => k_is)
    (case l_Session_path => k_is)
    (case c_Session_path => k_is)
    (case k_Session_path => k_is)
    (case a_Tree_numbers => k_is)
    (case i_Tree_numbers => k_is)
    (case l_Tree_numbers => k_is)
    (case c_Tree_numbers => k_is)
    (case k_Tree_numbers => k_is)
    (case a_Session_leaves => k_is)
    (case i_Session_leaves => k_is)
    (case l_Session_leaves => k_is)
    (case c_Session_leaves => k_is)
    (case k_Session_leaves => k_is)
    (case a_Session_state_info => k_is)
    (case i_Session_state_info => k_is)
    (case l_Session_state_info => k_is)
    (case c_Session_state_info => k_is)
    (case k_Session_state_info => k_is)
    (case a_Tree_here => k_is)
    (case i_Tree_here => k_is)
    (case l_Tree_here => k_is)
    (case c_Tree_here => k_is)
    (case k_Tree_here => k_is)
    (case a_Session_text_now => k_is)
    (case i_Session_text_now => k_is)
    (case l_Session_text_now => k_is)
    (case c_Session_text_now => k_is)
    (case k_Session_text_now => k_is)
    (case a_Session_get_text => k_is)
    (case i_Session_get_text => k_is)
    (case l_Session_get_text => k_is)
    (case c_Session_get_text => k_is)
    (case k_Session_get_text => k_is)
    (case a_telling => k_is)
    (case l_telling => k_is)
    (case c_telling => k_is)
    (case k_telling => k_is)
    (case a_may_root_go => k_is)
    (case l_may_root_go => k_is)
    (case c_may_root_go => k_is)
    (case k_may_root_go => k_is)
    (case a_Tree_take_root_away => k_is)
    (case i_Tree_take_root_away => k_is)
    (case l_Tree_take_root_away => k_is)
    (case c_Tree_take_root_away => k_is)
    (case k_Tree_take_root_away => k_is)
    (case a_without_roots => k_is)
    (case l_without_roots => k_is)
    (case c_without_roots => k_is)
    (case k_without_roots => k_is)
    (case a_may_go => k_is)
    (case l_may_go => k_is)
    (case c_may_go => k_is)
    (case k_may_go => k_is)
    (case a_leaves_to_go => k_is)
    (case l_leaves_to_go => k_is)
    (case c_leaves_to_go => k_is)
    (case k_leaves_to_go => k_is)
    (case a_Tree_take_away => k_is)
    (case i_Tree_take_away => k_is)
    (case l_Tree_take_away => k_is)
    (case c_Tree_take_away => k_is)
    (case k_Tree_take_away => k_is)
    (case a_without_leaves => k_is)
    (case l_without_leaves => k_is)
    (case c_without_leaves => k_is)
    (case k_without_leaves => k_is)
    (case a_forget => k_is)
    (case l_forget => k_is)
    (case c_forget => k_is)
    (case k_forget => k_is)
    (case a_Session_forgotten => k_is)
    (case i_Session_forgotten => k_is)
    (case l_Session_forgotten => k_is)
    (case c_Session_forgotten => k_is)
    (case k_Session_forgotten => k_is)
    (case a_Session_keep => k_is)
    (case i_Session_keep => k_is)
    (case l_Session_keep => k_is)
    (case c_Session_keep => k_is)
    (case k_Session_keep => k_is)
    (case a_State_init => k_is)
    (case i_State_init => k_is)
    (case l_State_init => k_is)
    (case c_State_init => k_is)
    (case k_State_init => k_is)
    (case a_Tree_create => k_is)
    (case i_Tree_create => k_is)
    (case l_Tree_create => k_is)
    (case c_Tree_create => k_is)
    (case k_Tree_create => k_is)
    (case a_changed => k_is)
    (case l_changed => k_is)
    (case c_changed => k_is)
    (case k_changed => k_is)
    (case a_Change_init => k_is)
    (case i_Change_init => k_is)
    (case l_Change_init => k_is)
    (case c_Change_init => k_is)
    (case k_Change_init => k_is)
    (case a_removed_bytes => k_is)
    (case l_removed_bytes => k_is)
    (case c_removed_bytes => k_is)
    (case k_removed_bytes => k_is)
    (case a_start_behind => k_is)
    (case l_start_behind => k_is)
    (case c_start_behind => k_is)
    (case k_start_behind => k_is)
    (case a_start_behind_all => k_is)
    (case l_start_behind_all => k_is)
    (case c_start_behind_all => k_is)
    (case k_start_behind_all => k_is)
    (case a_changes_behind => k_is)
    (case l_changes_behind => k_is)
    (case c_changes_behind => k_is)
    (case k_changes_behind => k_is)
    (case a_reverting => k_is)
    (case l_reverting => k_is)
    (case c_reverting => k_is)
    (case k_reverting => k_is)
    (case a_Session_why_not_reverted => k_is)
    (case i_Session_why_not_reverted => k_is)
    (case l_Session_why_not_reverted => k_is)
    (case c_Session_why_not_reverted => k_is)
    (case k_Session_why_not_reverted => k_is)
    (case a_Session_revert => k_is)
    (case i_Session_revert => k_is)
    (case l_Session_revert => k_is)
    (case c_Session_revert => k_is)
    (case k_Session_revert => k_is)
    (case a_Tree_visit => k_is)
    (case i_Tree_visit => k_is)
    (case l_Tree_visit => k_is)
    (case c_Tree_visit => k_is)
    (case k_Tree_visit => k_is)
    (case a_steps_of => k_is)
    (case l_steps_of => k_is)
    (case c_steps_of => k_is)
    (case k_steps_of => k_is)
    (case a_Session_moved_to => k_is)
    (case i_Session_moved_to => k_is)
    (case l_Session_moved_to => k_is)
    (case c_Session_moved_to => k_is)
    (case k_Session_moved_to => k_is)
    (case a_Session_moved_among => k_is)
    (case i_Session_moved_among => k_is)
    (case l_Session_moved_among => k_is)
    (case c_Session_moved_among => k_is)
    (case k_Session_moved_among => k_is)
    (case a_Session_ago => k_is)
    (case i_Session_ago => k_is)
    (case l_Session_ago => k_is)
    (case c_Session_ago => k_is)
    (case k_Session_ago => k_is)
    (case a_Session_later => k_is)
    (case i_Session_later => k_is)
    (case l_Session_later => k_is)
    (case c_Session_later => k_is)
    (case k_Session_later => k_is)
    (case a_Session_earlier => k_is)
    (case i_Session_earlier => k_is)
    (case l_Session_earlier => k_is)
    (case c_Session_earlier => k_is)
    (case k_Session_earlier => k_is)
    (case a_Session_go_to => k_is)
    (case i_Session_go_to => k_is)
    (case l_Session_go_to => k_is)
    (case c_Session_go_to => k_is)
    (case k_Session_go_to => k_is)
    (case a_Session_told_here => k_is)
    (case i_Session_told_here => k_is)
    (case l_Session_told_here => k_is)
    (case c_Session_told_here => k_is)
    (case k_Session_told_here => k_is)
    (case a_State_preferred => k_is)
    (case i_State_preferred => k_is)
    (case l_State_preferred => k_is)
    (case c_State_preferred => k_is)
    (case k_State_preferred => k_is)
    (case a_Session_redo => k_is)
    (case i_Session_redo => k_is)
    (case l_Session_redo => k_is)
    (case c_Session_redo => k_is)
    (case k_Session_redo => k_is)
    (case a_Session_undo => k_is)
    (case i_Session_undo => k_is)
    (case l_Session_undo => k_is)
    (case c_Session_undo => k_is)
    (case k_Session_undo => k_is)
    (case a_Session_end_group => k_is)
    (case i_Session_end_group => k_is)
    (case l_Session_end_group => k_is)
    (case c_Session_end_group => k_is)
    (case k_Session_end_group => k_is)
    (case a_Session_begin_group => k_is)
    (case i_Session_begin_group => k_is)
    (case l_Session_begin_group => k_is)
    (case c_Session_begin_group => k_is)
    (case k_Session_begin_group => k_is)
    (case a_moving => k_is)
    (case l_moving => k_is)
    (case c_moving => k_is)
    (case k_moving => k_is)
    (case a_are_bytes => k_is)
    (case l_are_bytes => k_is)
    (case c_are_bytes => k_is)
    (case k_are_bytes => k_is)
    (case a_Session_change => k_is)
    (case i_Session_change => k_is)
    (case l_Session_change => k_is)
    (case c_Session_change => k_is)
    (case k_Session_change => k_is)
    (case a_Session_wait => k_is)
    (case i_Session_wait => k_is)
    (case l_Session_wait => k_is)
    (case c_Session_wait => k_is)
    (case k_Session_wait => k_is)
    (case a_Tree_init => k_is)
    (case i_Tree_init => k_is)
    (case l_Tree_init => k_is)
    (case c_Tree_init => k_is)
    (case k_Tree_init => k_is)
    (case a_Session_start => k_is)
    (case i_Session_start => k_is)
    (case l_Session_start => k_is)
    (case c_Session_start => k_is)
    (case k_Session_start => k_is)
    (case a_answer => k_is)
    (case l_answer => k_is)
    (case c_answer => k_is)
    (case k_answer => k_is)
    (case a_Session_init => k_is)
    (case i_Session_init => k_is)
    (case l_Session_init => k_is)
    (case c_Session_init => k_is)
    (case k_Session_init => k_is)
    (case a_answers => k_is)
    (case l_answers => k_is)
    (case c_answers => k_is)
    (case k_answers => k_is)
  case S =>
    intro K H xs a hO hwi hask hx
    cases hx with
    | cons h1 h2 =>
      cases h2
      cases h1 with
      | lst hs ha =>
        have e := L2.ints_dw a.1 _ ha
        subst e
        have q : ((Codec.inLen 0 28320 a.1 && a.1.all (Codec.inInt 0 4294967295)) && true) = true := hwi
        rw [Bool.and_eq_true, Bool.and_eq_true] at q
        have hask' : PyUe03.answers_asked a.1 = true := hask
        have hb : ∀ x ∈ a.1, 0 ≤ x := fun x hx => (Codec.inInt_iff.mp (List.all_eq_true.mp q.1.2 x hx)).1
        obtain ⟨rs, cs, k1, k2, k3, k4⟩ := Ub.law a.1 hb hask'
        have ev : a.1.map L2.V.int = Ub.vInts (a.1.map Int.toNat) := Ub.vInts_of hb
        have hs' := hs
        rw [ev] at hs'
        refine ⟨rfl, _, a.1.map Int.toNat, rs, cs, rfl, hs', k1, ?_, k2, ?_, fun H' p hp => ?_⟩
        · have hl := (Codec.inNat_iff.mp q.1.1).2
          rw [List.length_map]
          omega
        · rw [k3]
          exact k4
        · rw [k3] at hp
          exact .lst (L2.SqL.of hp) (L2.dw_ints _)
#print axioms PySem.Challenge.cw_undobranches_s01_answers_holds
