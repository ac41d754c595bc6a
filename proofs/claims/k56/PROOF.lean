import PyProof.Rows.All
import Wide.All
import OpenK.AllK
import Wide.FinOn
import HandS.ForMost
import HandS.DictComp
import HandS.IsInst
import HandS.Wide
import HandS.WideBits
import HandS.SetFor
import HandS.Strs
import HandS.TupSets
import HandS.TupAny
import HandS.TupMul
import HandS.Style
import HandS.Small
import HandS.SortInts
import HandS.FStr
import PyProof.Rows.SetFrom
import HandS.Codes
import HandS.CallRecv
import PySem.Challenge.RW_rocktrees_k56_trees_as_text
/-! Search trees, their preorder, insertion, an ask; the links of a tree as functions. -/
namespace Rk
inductive Tr where
  | nil
  | node (l : Tr) (k : Int) (r : Tr)
  deriving DecidableEq
namespace Tr
def pre : Tr → List Int
  | nil => []
  | node l k r => k :: (l.pre ++ r.pre)
def Bst : Tr → Prop
  | nil => True
  | node l k r => l.Bst ∧ r.Bst ∧ (∀ x ∈ l.pre, x < k) ∧ (∀ x ∈ r.pre, k < x)
def ins (x : Int) : Tr → Tr
  | nil => node nil x nil
  | node l k r => if x < k then node (ins x l) k r else if k < x then node l k (ins x r) else node l k r
def build (t : Tr) (ks : List Int) : Tr := ks.foldl (fun t x => ins x t) t
def root? : Tr → Option Int
  | nil => none
  | node _ k _ => some k
def lc : Tr → Int → Option Int
  | nil, _ => none
  | node l a r, k => if k < a then l.lc k else if a < k then r.lc k else l.root?
def rc : Tr → Int → Option Int
  | nil, _ => none
  | node l a r, k => if k < a then l.rc k else if a < k then r.rc k else r.root?
def bo : Tr → Int → Option Int
  | nil, _ => none
  | node l a r, k => if k < a then (if l.root? = some k then some a else l.bo k) else if a < k then (if r.root? = some k then some a else r.bo k) else none
/-- the left child of a goes over it, the right one -/
def rotR (l : Tr) (a : Int) (r : Tr) : Tr := match l with
  | nil => node nil a r
  | node b y c => node b y (node c a r)
def rotL (l : Tr) (a : Int) (r : Tr) : Tr := match r with
  | nil => node l a nil
  | node b y c => node (node l a b) y c
/-- rotate x over its parent -/
def up (x : Int) : Tr → Tr
  | nil => nil
  | node l a r =>
    if x < a then (if l.root? = some x then rotR l a r else node (up x l) a r)
    else if a < x then (if r.root? = some x then rotL l a r else node l a (up x r))
    else node l a r

theorem mem_ins {x y : Int} : ∀ {t : Tr}, y ∈ (ins x t).pre ↔ y = x ∨ y ∈ t.pre
  | nil => by simp [ins, pre]
  | node l k r => by
    have h1 := mem_ins (x := x) (y := y) (t := l)
    have h2 := mem_ins (x := x) (y := y) (t := r)
    unfold ins
    split
    · simp only [pre, List.mem_cons, List.mem_append, h1]; grind
    · split
      · simp only [pre, List.mem_cons, List.mem_append, h2]; grind
      · have : x = k := by omega
        simp only [pre, List.mem_cons, List.mem_append]; grind
theorem bst_ins {x : Int} : ∀ {t : Tr}, t.Bst → (ins x t).Bst
  | nil, _ => by simp [ins, Bst, pre]
  | node l k r, h => by
    obtain ⟨h1, h2, h3, h4⟩ := h
    unfold ins
    split
    · exact ⟨bst_ins h1, h2, fun y hy => by rcases mem_ins.mp hy with e | e; omega; exact h3 y e, h4⟩
    · split
      · exact ⟨h1, bst_ins h2, h3, fun y hy => by rcases mem_ins.mp hy with e | e; omega; exact h4 y e⟩
      · exact ⟨h1, h2, h3, h4⟩
theorem mem_build {y : Int} : ∀ {ks : List Int} {t : Tr}, y ∈ (build t ks).pre ↔ y ∈ ks ∨ y ∈ t.pre
  | [], t => by simp [build]
  | k :: ks, t => by
    have := mem_build (y := y) (ks := ks) (t := ins k t)
    simp only [build, List.foldl_cons] at this ⊢
    rw [this, mem_ins]; simp; grind
theorem bst_build : ∀ {ks : List Int} {t : Tr}, t.Bst → (build t ks).Bst
  | [], _, h => h
  | _ :: ks, _, h => bst_build (ks := ks) (bst_ins h)
theorem build_left {k : Int} {b : Tr} : ∀ {ks : List Int} {a : Tr}, (∀ x ∈ ks, x < k) → build (node a k b) ks = node (build a ks) k b
  | [], _, _ => rfl
  | x :: ks, a, h => by
    have hx : x < k := h x List.mem_cons_self
    show build (ins x (node a k b)) ks = node (build (ins x a) ks) k b
    rw [← build_left (ks := ks) (fun y hy => h y (List.mem_cons_of_mem _ hy))]
    congr 1
    simp [ins, hx]
theorem build_right {k : Int} {a : Tr} : ∀ {ks : List Int} {b : Tr}, (∀ x ∈ ks, k < x) → build (node a k b) ks = node a k (build b ks)
  | [], _, _ => rfl
  | x :: ks, b, h => by
    have hx : k < x := h x List.mem_cons_self
    show build (ins x (node a k b)) ks = node a k (build (ins x b) ks)
    rw [← build_right (ks := ks) (fun y hy => h y (List.mem_cons_of_mem _ hy))]
    congr 1
    have : ¬ x < k := by omega
    simp [ins, hx, this]
theorem build_append (t : Tr) (xs ys : List Int) : build t (xs ++ ys) = build (build t xs) ys := by
  unfold build; rw [List.foldl_append]
theorem build_pre : ∀ {t : Tr}, t.Bst → build nil t.pre = t
  | nil, _ => rfl
  | node l k r, ⟨h1, h2, h3, h4⟩ => by
    show build (ins k nil) (l.pre ++ r.pre) = _
    rw [show ins k nil = node nil k nil from rfl, build_append, build_left h3, build_right h4, build_pre h1, build_pre h2]
theorem pre_inj {t u : Tr} (ht : t.Bst) (hu : u.Bst) (e : t.pre = u.pre) : t = u := by
  rw [← build_pre ht, ← build_pre hu, e]
theorem pre_nodup : ∀ {t : Tr}, t.Bst → t.pre.Nodup
  | nil, _ => List.nodup_nil
  | node l k r, ⟨h1, h2, h3, h4⟩ => by
    refine List.nodup_cons.mpr ⟨fun m => ?_, List.nodup_append.mpr ⟨pre_nodup h1, pre_nodup h2, fun a ha b hb => ?_⟩⟩
    · rcases List.mem_append.mp m with m | m
      · have := h3 k m; omega
      · have := h4 k m; omega
    · have := h3 a ha; have := h4 b hb; omega
theorem root_mem {t : Tr} {k : Int} (h : t.root? = some k) : k ∈ t.pre := by
  cases t with
  | nil => cases h
  | node l a r => cases h; exact List.mem_cons_self
theorem lc_mem : ∀ {t : Tr} {k y : Int}, t.Bst → t.lc k = some y → y ∈ t.pre ∧ y < k
  | nil, _, _, _, h => by cases h
  | node l a r, k, y, ⟨h1, h2, h3, h4⟩, h => by
    unfold lc at h
    simp only [pre, List.mem_cons, List.mem_append]
    split at h
    · have := lc_mem h1 h; grind
    · split at h
      · have := lc_mem h2 h; grind
      · have := root_mem h; have := h3 y this; grind
theorem rc_mem : ∀ {t : Tr} {k y : Int}, t.Bst → t.rc k = some y → y ∈ t.pre ∧ k < y
  | nil, _, _, _, h => by cases h
  | node l a r, k, y, ⟨h1, h2, h3, h4⟩, h => by
    unfold rc at h
    simp only [pre, List.mem_cons, List.mem_append]
    split at h
    · have := rc_mem h1 h; grind
    · split at h
      · have := rc_mem h2 h; grind
      · have := root_mem h; have := h4 y this; grind
theorem bo_mem : ∀ {t : Tr} {k y : Int}, t.bo k = some y → y ∈ t.pre ∧ y ≠ k ∧ k ∈ t.pre
  | nil, _, _, h => by cases h
  | node l a r, k, y, h => by
    unfold bo at h
    simp only [pre, List.mem_cons, List.mem_append]
    split at h
    · split at h
      · rename_i e; have := root_mem e; cases h; grind
      · have := bo_mem h; grind
    · split at h
      · split at h
        · rename_i e; have := root_mem e; cases h; grind
        · have := bo_mem h; grind
      · cases h
theorem mem_rotR {y : Int} {l : Tr} {a : Int} {r : Tr} : y ∈ (rotR l a r).pre ↔ y ∈ (node l a r).pre := by
  cases l <;> simp only [rotR, pre, List.mem_cons, List.mem_append] <;> grind
theorem mem_rotL {y : Int} {l : Tr} {a : Int} {r : Tr} : y ∈ (rotL l a r).pre ↔ y ∈ (node l a r).pre := by
  cases r <;> simp only [rotL, pre, List.mem_cons, List.mem_append] <;> grind
theorem mem_up {x y : Int} : ∀ {t : Tr}, y ∈ (up x t).pre ↔ y ∈ t.pre
  | nil => by simp [up]
  | node l a r => by
    have h1 := mem_up (x := x) (y := y) (t := l)
    have h2 := mem_up (x := x) (y := y) (t := r)
    unfold up
    split
    · split
      · exact mem_rotR
      · simp only [pre, List.mem_cons, List.mem_append, h1]
    · split
      · split
        · exact mem_rotL
        · simp only [pre, List.mem_cons, List.mem_append, h2]
      · rfl
theorem bst_up {x : Int} : ∀ {t : Tr}, t.Bst → (up x t).Bst
  | nil, _ => trivial
  | node l a r, ⟨h1, h2, h3, h4⟩ => by
    unfold up
    split
    · split
      · cases l with
        | nil => exact ⟨h1, h2, h3, h4⟩
        | node b y c =>
          obtain ⟨g1, g2, g3, g4⟩ := h1
          have hy : y < a := h3 y (by simp [pre])
          refine ⟨g1, ⟨g2, h2, fun z hz => h3 z (by simp [pre, hz]), h4⟩, g3, fun z hz => ?_⟩
          simp only [pre, List.mem_cons, List.mem_append] at hz
          rcases hz with rfl | hz | hz
          · exact hy
          · exact g4 z hz
          · have := h4 z hz; omega
      · exact ⟨bst_up h1, h2, fun z hz => h3 z (mem_up.mp hz), h4⟩
    · split
      · split
        · cases r with
          | nil => exact ⟨h1, h2, h3, h4⟩
          | node b y c =>
            obtain ⟨g1, g2, g3, g4⟩ := h2
            have hy : a < y := h4 y (by simp [pre])
            refine ⟨⟨h1, g1, h3, fun z hz => h4 z (by simp [pre, hz])⟩, g2, fun z hz => ?_, g4⟩
            simp only [pre, List.mem_cons, List.mem_append] at hz
            rcases hz with rfl | hz | hz
            · exact hy
            · have := h3 z hz; omega
            · exact g3 z hz
        · exact ⟨h1, bst_up h2, h3, fun z hz => h4 z (mem_up.mp hz)⟩
      · exact ⟨h1, h2, h3, h4⟩
/-- what an ask does to the links -/
def ptr (f : Int → Option Int) (k : Int) (v : Option Int) : Int → Option Int := fun z => if z = k then v else f z
def ptrO (f : Int → Option Int) (k : Option Int) (v : Option Int) : Int → Option Int := match k with
  | none => f
  | some k => ptr f k v
/-- an ask of x, whose parent is p: told for one side (near: the links on x's side of p) -/
theorem up_root {x : Int} : ∀ {t : Tr}, t.Bst → (up x t).root? = if (t.bo x).isSome = true ∧ t.bo x = t.root? then some x else t.root?
  | nil, _ => rfl
  | node l a r, ⟨h1, h2, h3, h4⟩ => by
    unfold up bo
    split
    · rename_i hx
      split
      · rename_i e
        cases l with
        | nil => cases e
        | node b y c => cases e; simp [rotR, root?]
      · rename_i e
        have hb : ∀ y, l.bo x = some y → y < a := fun y hy => h3 y (bo_mem hy).1
        have hn : ¬ ((l.bo x).isSome = true ∧ l.bo x = (node l a r).root?) := fun hh => by have := hb a hh.2; omega
        exact (if_neg hn).symm
    · split
      · split
        · rename_i e
          cases r with
          | nil => cases e
          | node b y c => cases e; simp [rotL, root?]
        · rename_i e
          have hb : ∀ y, r.bo x = some y → a < y := fun y hy => h4 y (bo_mem hy).1
          have hn : ¬ ((r.bo x).isSome = true ∧ r.bo x = (node l a r).root?) := fun hh => by have := hb a hh.2; omega
          exact (if_neg hn).symm
      · simp [root?]
theorem root?_node {l r : Tr} {k : Int} : (node l k r).root? = some k := rfl
theorem lc_none {t : Tr} {k : Int} : k ∉ t.pre → t.lc k = none := by
  induction t with
  | nil => intro _; rfl
  | node l a r h1 h2 => simp only [pre, List.mem_cons, List.mem_append]; unfold lc; grind
theorem rc_none {t : Tr} {k : Int} : k ∉ t.pre → t.rc k = none := by
  induction t with
  | nil => intro _; rfl
  | node l a r h1 h2 => simp only [pre, List.mem_cons, List.mem_append]; unfold rc; grind
theorem bo_none {t : Tr} {k : Int} : k ∉ t.pre → t.bo k = none := fun h => by
  cases e : t.bo k with
  | none => rfl
  | some y => exact absurd (bo_mem e).2.2 h
theorem bo_root {t : Tr} (ht : t.Bst) {k : Int} (h : t.root? = some k) : t.bo k = none := by
  cases t with
  | nil => cases h
  | node l a r =>
    cases h
    unfold bo
    rw [if_neg (Int.lt_irrefl _), if_neg (Int.lt_irrefl _)]
theorem lc_bo {k y : Int} : ∀ {t : Tr}, t.Bst → t.lc k = some y → t.bo y = some k
  | nil, _, h => by cases h
  | node l a r, ⟨h1, h2, h3, h4⟩, h => by
    have i1 := lc_bo (k := k) (y := y) h1
    have i2 := lc_bo (k := k) (y := y) h2
    have m1 := @lc_mem l k y h1
    have m2 := @lc_mem r k y h2
    have q1 := @root_mem l y
    have c1 := bo_root (k := y) h1
    have c2 := bo_root (k := y) h2
    unfold lc at h
    unfold bo
    grind
theorem rc_bo {k y : Int} : ∀ {t : Tr}, t.Bst → t.rc k = some y → t.bo y = some k
  | nil, _, h => by cases h
  | node l a r, ⟨h1, h2, h3, h4⟩, h => by
    have i1 := rc_bo (k := k) (y := y) h1
    have i2 := rc_bo (k := k) (y := y) h2
    have m1 := @rc_mem l k y h1
    have m2 := @rc_mem r k y h2
    have q1 := @root_mem r y
    have c1 := bo_root (k := y) h1
    have c2 := bo_root (k := y) h2
    unfold rc at h
    unfold bo
    grind
theorem up_lt {x p : Int} : ∀ {t : Tr}, t.Bst → t.bo x = some p → x < p → ∀ z : Int,
    (up x t).lc z = (if t.bo p = some z ∧ x < z then some x else if z = p then t.rc x else t.lc z) ∧
    (up x t).rc z = (if t.bo p = some z ∧ z < x then some x else if z = x then some p else t.rc z) ∧
    (up x t).bo z = (if z = x then t.bo p else if z = p then some x else if t.rc x = some z then some p else t.bo z)
  | nil, _, h, _, _ => by cases h
  | node l a r, ⟨h1, h2, h3, h4⟩, h, hx, z => by
    have ih1 := up_lt (x := x) (p := p) (t := l) h1
    have ih2 := up_lt (x := x) (p := p) (t := r) h2
    have r1 := up_root (x := x) h1
    have r2 := up_root (x := x) h2
    have m1 : ∀ y, y ∈ (up x l).pre ↔ y ∈ l.pre := fun y => mem_up
    have m2 : ∀ y, y ∈ (up x r).pre ↔ y ∈ r.pre := fun y => mem_up
    have b1 := @bo_mem l
    have b2 := @bo_mem r
    have q1 := @root_mem l
    have q2 := @root_mem r
    by_cases e : x < a
    · by_cases e2 : l.root? = some x
      · -- at the top
        have ep : p = a := by
          unfold bo at h; rw [if_pos e, if_pos e2] at h; cases h; rfl
        subst ep
        cases l with
        | nil => cases e2
        | node b y c =>
          cases e2
          have hB : (node (node b x c) p r).Bst := ⟨h1, h2, h3, h4⟩
          obtain ⟨g1, g2, g3, g4⟩ := h1
          have c1 := @root_mem c
          have c2 := @root_mem b
          have hb0 : (node (node b x c) p r).bo p = none := bo_root hB rfl
          rw [hb0]
          have hz : (up x (node (node b x c) p r)) = node b x (node c p r) := by
            unfold up; rw [if_pos hx, if_pos (show (node b x c).root? = some x from rfl)]; rfl
          rw [hz]
          have hcp : ∀ y, c.root? = some y → x < y ∧ y < p := fun y hy => ⟨g4 y (c1 hy), h3 y (by simp [pre, c1 hy])⟩
          have hbp : ∀ y, b.root? = some y → y < x := fun y hy => g3 y (c2 hy)
          have hrp : ∀ y, r.root? = some y → p < y := fun y hy => h4 y (q2 hy)
          clear ih1 ih2 r1 r2 m1 m2 b1 b2 q1 q2 h hz hb0
          refine ⟨?_, ?_, ?_⟩
          · simp only [lc, rc, root?_node]; grind
          · simp only [lc, rc, root?_node]; grind
          · simp only [bo, rc, root?_node]; grind
      · have e3 : l.bo x = some p := by
          unfold bo at h; rw [if_pos e, if_neg e2] at h; exact h
        have hz : (up x (node l a r)) = node (up x l) a r := by
          conv => lhs; unfold up
          rw [if_pos e, if_neg e2]
        have hpa : p < a := h3 p (b1 e3).1
        obtain ⟨i1, i2, i3⟩ := ih1 e3 hx z
        rw [hz]
        have ebp : (node l a r).bo p = if l.root? = some p then some a else l.bo p := by
          conv => lhs; unfold bo
          rw [if_pos hpa]
        have hq : ∀ y, l.bo p = some y → y < a := fun y hy => h3 y (b1 hy).1
        have hc1 : ∀ y, l.rc x = some y → l.root? ≠ some y := fun y hy hr => by
          have := rc_bo h1 hy; rw [bo_root h1 hr] at this; cases this
        have hc2 : ∀ y, l.rc x = some y → y < a := fun y hy => h3 y (rc_mem h1 hy).1
        clear ih1 ih2 r2 m1 m2 b2 h hz
        have hrl := bo_root (k := p) h1
        rw [ebp]
        refine ⟨?_, ?_, ?_⟩
        · simp only [lc, rc]; grind
        · simp only [lc, rc]; grind
        · simp only [bo, rc]; grind
    · have e' : a < x := by
        unfold bo at h; rw [if_neg e] at h
        by_cases c : a < x
        · exact c
        · rw [if_neg c] at h; cases h
      by_cases e2 : r.root? = some x
      · have ep : p = a := by
          unfold bo at h; rw [if_neg e, if_pos e', if_pos e2] at h; cases h; rfl
        omega
      · have e3 : r.bo x = some p := by
          unfold bo at h; rw [if_neg e, if_pos e', if_neg e2] at h; exact h
        have hz : (up x (node l a r)) = node l a (up x r) := by
          conv => lhs; unfold up
          rw [if_neg e, if_pos e', if_neg e2]
        have hpa : a < p := h4 p (b2 e3).1
        obtain ⟨i1, i2, i3⟩ := ih2 e3 hx z
        rw [hz]
        have ebp : (node l a r).bo p = if r.root? = some p then some a else r.bo p := by
          conv => lhs; unfold bo
          rw [if_neg (by omega), if_pos hpa]
        have hq : ∀ y, r.bo p = some y → a < y := fun y hy => h4 y (b2 hy).1
        have hc1 : ∀ y, r.rc x = some y → r.root? ≠ some y := fun y hy hr => by
          have := rc_bo h2 hy; rw [bo_root h2 hr] at this; cases this
        have hc2 : ∀ y, r.rc x = some y → a < y := fun y hy => h4 y (rc_mem h2 hy).1
        clear ih1 ih2 r1 m1 m2 b1 h hz
        have hrl := bo_root (k := p) h2
        rw [ebp]
        refine ⟨?_, ?_, ?_⟩
        · simp only [lc, rc]; grind
        · simp only [lc, rc]; grind
        · simp only [bo, rc]; grind
theorem up_gt {x p : Int} : ∀ {t : Tr}, t.Bst → t.bo x = some p → p < x → ∀ z : Int,
    (up x t).rc z = (if t.bo p = some z ∧ z < x then some x else if z = p then t.lc x else t.rc z) ∧
    (up x t).lc z = (if t.bo p = some z ∧ x < z then some x else if z = x then some p else t.lc z) ∧
    (up x t).bo z = (if z = x then t.bo p else if z = p then some x else if t.lc x = some z then some p else t.bo z)
  | nil, _, h, _, _ => by cases h
  | node l a r, ⟨h1, h2, h3, h4⟩, h, hx, z => by
    have ih1 := up_gt (x := x) (p := p) (t := l) h1
    have ih2 := up_gt (x := x) (p := p) (t := r) h2
    have r1 := up_root (x := x) h1
    have r2 := up_root (x := x) h2
    have b1 := @bo_mem l
    have b2 := @bo_mem r
    have q1 := @root_mem l
    have q2 := @root_mem r
    by_cases e : x < a
    · by_cases e2 : l.root? = some x
      · have ep : p = a := by
          unfold bo at h; rw [if_pos e, if_pos e2] at h; cases h; rfl
        omega
      · have e3 : l.bo x = some p := by
          unfold bo at h; rw [if_pos e, if_neg e2] at h; exact h
        have hz : (up x (node l a r)) = node (up x l) a r := by
          conv => lhs; unfold up
          rw [if_pos e, if_neg e2]
        have hpa : p < a := h3 p (b1 e3).1
        obtain ⟨i1, i2, i3⟩ := ih1 e3 hx z
        rw [hz]
        have ebp : (node l a r).bo p = if l.root? = some p then some a else l.bo p := by
          conv => lhs; unfold bo
          rw [if_pos hpa]
        have hq : ∀ y, l.bo p = some y → y < a := fun y hy => h3 y (b1 hy).1
        have hc1 : ∀ y, l.lc x = some y → l.root? ≠ some y := fun y hy hr => by
          have := lc_bo h1 hy; rw [bo_root h1 hr] at this; cases this
        have hc2 : ∀ y, l.lc x = some y → y < a := fun y hy => h3 y (lc_mem h1 hy).1
        clear ih1 ih2 r2 b2 h hz
        have hrl := bo_root (k := p) h1
        rw [ebp]
        refine ⟨?_, ?_, ?_⟩
        · simp only [lc, rc]; grind
        · simp only [lc, rc]; grind
        · simp only [bo, lc]; grind
    · have e' : a < x := by
        unfold bo at h; rw [if_neg e] at h
        by_cases c : a < x
        · exact c
        · rw [if_neg c] at h; cases h
      by_cases e2 : r.root? = some x
      · -- at the top
        have ep : p = a := by
          unfold bo at h; rw [if_neg e, if_pos e', if_pos e2] at h; cases h; rfl
        subst ep
        cases r with
        | nil => cases e2
        | node b y c =>
          cases e2
          have hB : (node l p (node b x c)).Bst := ⟨h1, h2, h3, h4⟩
          obtain ⟨g1, g2, g3, g4⟩ := h2
          have c1 := @root_mem c
          have c2 := @root_mem b
          have hb0 : (node l p (node b x c)).bo p = none := bo_root hB rfl
          rw [hb0]
          have hz : (up x (node l p (node b x c))) = node (node l p b) x c := by
            unfold up; rw [if_neg e, if_pos hx, if_pos (show (node b x c).root? = some x from rfl)]; rfl
          rw [hz]
          have hcp : ∀ y, b.root? = some y → y < x ∧ p < y := fun y hy => ⟨g3 y (c2 hy), h4 y (by simp [pre, c2 hy])⟩
          have hbp : ∀ y, c.root? = some y → x < y := fun y hy => g4 y (c1 hy)
          have hrp : ∀ y, l.root? = some y → y < p := fun y hy => h3 y (q1 hy)
          clear ih1 ih2 r1 r2 b1 b2 q1 q2 h hz hb0
          refine ⟨?_, ?_, ?_⟩
          · simp only [lc, rc, root?_node]; grind
          · simp only [lc, rc, root?_node]; grind
          · simp only [bo, lc, root?_node]; grind
      · have e3 : r.bo x = some p := by
          unfold bo at h; rw [if_neg e, if_pos e', if_neg e2] at h; exact h
        have hz : (up x (node l a r)) = node l a (up x r) := by
          conv => lhs; unfold up
          rw [if_neg e, if_pos e', if_neg e2]
        have hpa : a < p := h4 p (b2 e3).1
        obtain ⟨i1, i2, i3⟩ := ih2 e3 hx z
        rw [hz]
        have ebp : (node l a r).bo p = if r.root? = some p then some a else r.bo p := by
          conv => lhs; unfold bo
          rw [if_neg (by omega), if_pos hpa]
        have hq : ∀ y, r.bo p = some y → a < y := fun y hy => h4 y (b2 hy).1
        have hc1 : ∀ y, r.lc x = some y → r.root? ≠ some y := fun y hy hr => by
          have := lc_bo h2 hy; rw [bo_root h2 hr] at this; cases this
        have hc2 : ∀ y, r.lc x = some y → a < y := fun y hy => h4 y (lc_mem h2 hy).1
        clear ih1 ih2 r1 b1 h hz
        have hrl := bo_root (k := p) h2
        rw [ebp]
        refine ⟨?_, ?_, ?_⟩
        · simp only [lc, rc]; grind
        · simp only [lc, rc]; grind
        · simp only [bo, lc]; grind
theorem up_none {x : Int} : ∀ {t : Tr}, t.Bst → t.bo x = none → up x t = t
  | nil, _, _ => rfl
  | node l a r, ⟨h1, h2, _, _⟩, h => by
    have i1 := up_none (x := x) h1
    have i2 := up_none (x := x) h2
    unfold bo at h
    unfold up
    grind
end Tr
end Rk

set_option Elab.async false
set_option linter.all false
set_option maxRecDepth 100000
set_option maxHeartbeats 4000000
/-! Rules of any kind of value (a choice by the values), and their readings. -/
namespace Rk
open PySem PySem.Spec PyProof.Rows L2

/-! ### heaps: all that stands is kept, but for what is named -/
def Imm : HO → Prop
  | .tup _ => True
  | .frz _ _ => True
  | _ => False
def Fr (S : List Addr) (H H' : Hp) : Prop := ∀ b o, H b = some o → (b ∈ S → Imm o) → H' b = some o
theorem Fr.refl {S : List Addr} {H : Hp} : Fr S H H := fun _ _ h _ => h
theorem Fr.trans {S : List Addr} {H H1 H2 : Hp} (a : Fr S H H1) (b : Fr S H1 H2) : Fr S H H2 := fun c o h n => b c o (a c o h n) n
theorem Fr.mono {S R : List Addr} {H H1 : Hp} (a : Fr S H H1) (h : ∀ x ∈ S, x ∈ R) : Fr R H H1 := fun c o e n => a c o e fun m => n (h c m)
theorem Fr.same {S : List Addr} {H H1 : Hp} (a : Same H H1) : Fr S H H1 := fun c o h _ => a c o h
theorem Fr.toSame {H H1 : Hp} (a : Fr [] H H1) : Same H H1 := fun c o h => a c o h fun m => nomatch m
theorem Same.new {H : Hp} {p : Addr} {o : HO} (h : H p = none) : Same H (upd H p o) := fun b u e => by
  rw [upd_ne (ne_of_none e h)]
  exact e
theorem Fr.new {S : List Addr} {H H1 : Hp} {p : Addr} {o : HO} (a : Fr S H H1) (h : H1 p = none) : Fr S H (upd H1 p o) := a.trans (Fr.same (Same.new h))
/-- a named one is changed -/
theorem Fr.put {S : List Addr} {H H1 : Hp} {p : Addr} {o u : HO} (a : Fr S H H1) (e : H1 p = some o) (ho : ¬ Imm o) (h : p ∈ S) : Fr S H (upd H1 p u) := fun b v q n => by
  have q1 := a b v q n
  by_cases hb : b = p
  · subst hb
    rw [e] at q1
    cases q1
    exact absurd (n h) ho
  · rw [upd_ne hb]
    exact q1
/-- one that did not stand is changed -/
theorem Fr.put0 {S : List Addr} {H H1 : Hp} {p : Addr} {u : HO} (a : Fr S H H1) (h : H p = none) : Fr S H (upd H1 p u) := fun b v q n => by
  rw [upd_ne (ne_of_none q h)]
  exact a b v q n
theorem Fr.tup {S : List Addr} {H H' : Hp} {a : Addr} {xs : List V} (e : Fr S H H') (h : H a = some (.tup xs)) : H' a = some (.tup xs) := e _ _ h fun _ => trivial
theorem Fr.sqT {K : PySem.W.Frag} {S : List Addr} {H H' : Hp} {a : Addr} {xs : List V} (e : Fr S H H') (h : SqT K H a xs) : SqT K H' a xs := by
  rcases h with (h | ⟨o, h⟩) | h
  · exact .inl (.inl (e _ _ h fun _ => trivial))
  · exact .inl (.inr ⟨o, e _ _ h fun _ => trivial⟩)
  · exact .inr h
theorem _root_.L2.Same.sqT {K : PySem.W.Frag} {H H' : Hp} {a : Addr} {xs : List V} (e : Same H H') (h : SqT K H a xs) : SqT K H' a xs := (Fr.same (S := []) e).sqT h
theorem sqT_upd {K : PySem.W.Frag} {H : Hp} {a p : Addr} {xs : List V} {u : HO} (h : SqT K H a xs) (hp : ∀ o, H p = some o → ¬ Imm o) : SqT K (upd H p u) a xs := by
  have hne : ∀ o, H a = some o → Imm o → a ≠ p := fun o e i z => hp o (z ▸ e) i
  rcases h with (h | ⟨o, h⟩) | h
  · exact .inl (.inl (by rw [upd_ne (hne _ h trivial)]; exact h))
  · exact .inl (.inr ⟨o, by rw [upd_ne (hne _ h trivial)]; exact h⟩)
  · exact .inr h

/-! ### rules by values -/
section
variable {X : Cx}
def CPowW (i j : Int) : Prop := 0 ≤ j ∧ (Builtin.Int.intBits i : Int) * j ≤ 2 ^ 27
theorem op_powW : OpR X (binaryOp .Pow) (rI CPowW fun i j => .int (i ^ j.toNat)) := opI fun _ _ _ _ _ _ _ hc q => PyProof.Rows.pow_int hc.1 hc.2 q
theorem powW_ok {i j : Int} {a : Nat} (h : i.natAbs < 2 ^ a) (h0 : 0 < a) (hj : 0 ≤ j) (hb : (a : Int) * j ≤ 2 ^ 27) : CPowW i j := by
  refine ⟨hj, Int.le_trans (Int.mul_le_mul_of_nonneg_right ?_ hj) hb⟩
  unfold Builtin.Int.intBits
  have := PySem.Flt.log2_lt_of h0 h
  split <;> omega

def rStrAdd : R2 := fun x y H Q => ∃ i j, x = .str i ∧ y = .str j ∧ i.length + j.length ≤ sizeLine ∧ Q (.str (i ++ j)) H
/-- + -/
def uAdd (K : PySem.W.Frag) : R2 := fun x y H Q => rI0 (fun i j => .int (i + j)) x y H Q ∨ rStrAdd x y H Q ∨ rCatA K x y H Q ∨ rCat x y H Q
theorem ou_add : OpR X (binaryOp .Add) (uAdd X.K) := op_add.or (op_add_str.or (op_catA.or op_cat))
def uMul (K : PySem.W.Frag) : R2 := fun x y H Q => rI CMulX (fun i j => .int (i * j)) x y H Q ∨ rRep x y H Q ∨ rRepT K x y H Q
theorem ou_mul : OpR X (binaryOp .Mult) (uMul X.K) := op_mulX.or (op_rep.or op_repT)
def uEq (K : PySem.W.Frag) : R2 := fun x y H Q => rEq x y H Q ∨ rEqD K x y H Q
theorem ou_eq (hu : X.A.units + 64 < cLine) : OpR X (compareOp .Eq) (uEq X.K) := op_eq.or (op_eqD hu)
def uNe (K : PySem.W.Frag) : R2 := fun x y H Q => rNe x y H Q ∨ rNeD K x y H Q
theorem ou_ne (hu : X.A.units + 64 < cLine) : OpR X (compareOp .NotEq) (uNe X.K) := op_ne.or (op_neD hu)
def rStrLt : R2 := fun x y H Q => ∃ i j, x = .str i ∧ y = .str j ∧ Q (.bl (decide (i.cps.toList < j.cps.toList))) H
def uLt (K : PySem.W.Frag) : R2 := fun x y H Q => rI0 (fun i j => .bl (decide (i < j))) x y H Q ∨ rStrLt x y H Q ∨ rLtT K x y H Q
theorem ou_lt (hu : X.A.units < cLine) : OpR X (compareOp .Lt) (uLt X.K) := op_lt.or (op_lt_str.or (op_ltT hu))
def rDIn (neg : Bool) : R2 := fun y x H Q => ∃ a o, x = .ref a ∧ DGet H a y o ∧ Q (.bl (if neg then !o.isSome else o.isSome)) H
theorem op_dIn (hu : X.A.units + 1 < cLine) : OpR X (compareOp .In) (rDIn false) := by
  intro pins s σ H y x iv u Q I ry rx h
  obtain ⟨a, o, rfl, g, q⟩ := h
  obtain rfl : u = Value.ref a := rx
  exact d_in hu I g ry fun s3 I3 => ⟨.bl o.isSome, H, I3, rfl, q⟩
theorem op_dNotIn (hu : X.A.units + 1 < cLine) : OpR X (compareOp .NotIn) (rDIn true) := by
  intro pins s σ H y x iv u Q I ry rx h
  obtain ⟨a, o, rfl, g, q⟩ := h
  obtain rfl : u = Value.ref a := rx
  exact d_notIn hu I g ry fun s3 I3 => ⟨.bl (!o.isSome), H, I3, rfl, q⟩
def rSign (neg : Bool) : R2 := fun x y H Q => ∃ (c : Nat) (z : Str), x = .str ⟨#[c]⟩ ∧ y = .str z ∧ Q (.bl (if neg then !decide (c ∈ z.cps.toList) else decide (c ∈ z.cps.toList))) H
def uIn (K : PySem.W.Frag) : R2 := fun x y H Q => rDIn false x y H Q ∨ rIn K false x y H Q ∨ rSign false x y H Q
theorem ou_in (hu : X.A.units + 1 < cLine) : OpR X (compareOp .In) (uIn X.K) := (op_dIn hu).or (op_in_seq.or op_in_sign)
def uNotIn (K : PySem.W.Frag) : R2 := fun x y H Q => rDIn true x y H Q ∨ rIn K true x y H Q ∨ rSign true x y H Q
theorem ou_notin (hu : X.A.units + 1 < cLine) : OpR X (compareOp .NotIn) (uNotIn X.K) := (op_dNotIn hu).or (op_notIn_seq.or op_notIn_sign)
/-- an item of a dict -/
def rIxDk : R2 := fun x y H Q => ∃ a v, x = .ref a ∧ DGet H a y (some v) ∧ Q v H
theorem ix_dict (hu : X.A.units + 1 < cLine) : IxR X rIxDk := by
  intro value slice pins s σ H x y v u Q I rx ry h hs
  obtain ⟨a, w', rfl, g, q⟩ := h
  obtain rfl : v = Value.ref a := rx
  have hT := dict_typeIs I g
  unfold subscriptTail
  refine wpAny_bind ?_
  rw [getitemInPython_of_ne hT.not_modules]
  refine wpAny_bind (wpAny_specialOf hT PySem.F.slot_dict_getitem.lookup ?_)
  have fin : wpAny (model X.prog X.w) X.A (subscripted slice false (.ref a) u) (fun r s₃ => wpAny (model X.prog X.w) X.A (letTemporaryGo value (.ref a) r >>= fun _ => pure r) (EP X pins σ Q) X.xe s₃) X.xe s := by
    rw [hs]
    exact wpAny_operating (d_getItem hu I g ry fun w' s3 I3 rw' => wpAny_bind (wpAny_letTemporaryGo (wpAny_pure ⟨_, H, I3, rw', q⟩)))
  first
    | exact wpAny_pure (wpAny_bind fin)
    | exact wpAny_bind (wpAny_pure (wpAny_bind fin))
    | exact wpAny_bind fin
def uIx (K : PySem.W.Frag) : R2 := fun x y H Q => rIxDk x y H Q ∨ rIx K x y H Q
theorem ixu (hu : X.A.units + 1 < cLine) : IxR X (uIx X.K) := (ix_dict hu).or ix_seq
/-- a slice -/
def uSl (K : PySem.W.Frag) : V → Option Int → Option Int → Hp → VK → Prop := fun x lo hi H Q => rSlL K x lo hi H Q ∨ rSlA K x lo hi H Q ∨ rSlS x lo hi H Q
theorem su : SlR X (uSl X.K) := sl_list.or (sl_tupA.or sl_str)
/-- a store to an item -/
def uSet : V → V → V → Hp → (Hp → Prop) → Prop := fun o i v H Q => rSetL o i v H Q ∨ ∃ a H', o = .ref a ∧ DPut H a i v H' ∧ Q H'
theorem su_set (hu : X.A.units + 1 < cLine) : PSet X uSet := by
  intro pins s σ H o i v ov iv u Q I r1 r2 r3 h
  rcases h with h | h
  · exact set_list pins s σ H o i v ov iv u Q I r1 r2 r3 h
  · exact set_dict hu pins s σ H o i v ov iv u Q I r1 r2 r3 h
/-- len -/
def rLenD : List V → Hp → VK → Prop := fun xs H Q => ∃ a kvs, xs = [V.ref a] ∧ H a = some (.dK kvs) ∧ Q (.int kvs.length) H
def rLenS (K : PySem.W.Frag) : List V → Hp → VK → Prop := fun xs H Q => ∃ p ys, xs = [.ref p] ∧ (SqL K H p ys ∨ SqT K H p ys) ∧ Q (.int ys.length) H
def rLenStr : List V → Hp → VK → Prop := fun xs H Q => ∃ z, xs = [.str z] ∧ z.length ≤ sizeLine ∧ Q (.int z.length) H
/-- a set of ints: its size -/
def rLenSet (w : World) : List V → Hp → VK → Prop := fun xs H Q => ∃ a S n, xs = [V.ref a] ∧ H a = some (SetO w a S n) ∧ n ≤ 1000000 ∧ Q (.int n) H
theorem call_lenSet : CallR X (.builtin "len") (rLenSet X.w) := by
  intro pins s σ H xs us Q I r h
  obtain ⟨a, S, n, rfl, ha, hn, q⟩ := h
  obtain ⟨u, rfl, ru⟩ := vals1 r
  cases ru
  have R : SetR X.w s.heap a S n := (I.hok a _ ha).1
  obtain ⟨o, es, ep, t, ho, hex, hd, _, _, _, hb, hf, hs, _⟩ := R
  refine call_len_set ho hex hd hf ?_ ⟨.int n, H, I.tok _, ⟨_, by rw [hs]⟩, q⟩
  have : scanBound = 4096 := by decide +kernel
  omega
def uLen (K : PySem.W.Frag) (w : World) : List V → Hp → VK → Prop := fun xs H Q => rLenStr xs H Q ∨ rLenS K xs H Q ∨ rLenD xs H Q ∨ rLenSet w xs H Q
theorem cu_len : CallR X (.builtin "len") (uLen X.K X.w) := call_len_str.or (call_len_seq.or (call_lenD.or call_lenSet))
/-- set(t), t a tuple of ints -/
def rSetTI (K : PySem.W.Frag) (w : World) : List V → Hp → VK → Prop := fun xs H Q => ∃ (a : Addr) (ns : List Int), xs = [V.ref a] ∧ SqT K H a (ns.map V.int) ∧ ns.length < 4000 ∧
  ∀ p n (ks : List Int), H p = none → ks.Nodup → (∀ k, k ∈ ks ↔ k ∈ ns) → ks.length = n → Q (.ref p) (upd H p (SetO w p (fun j => decide (j ∈ ns)) n))
theorem setR_size {w : World} {h : Heap} {a : Addr} {S : Int → Bool} {n : Nat} (R : SetR w h a S n) : ∃ ks : List Int, ks.Nodup ∧ (∀ k, k ∈ ks ↔ S k = true) ∧ ks.length = n := by
  obtain ⟨o, es, ep, t, _, _, _, _, hn, hk, _, _, hs, _⟩ := R
  exact ⟨_, hn, fun k => (hk k).symm, by rw [List.length_map, Array.length_toList, hs]⟩
theorem call_setTI (hc : X.calm = true) : CallR X (.type "set") (rSetTI X.K X.w) := by
  intro pins s σ H xs us Q I r h
  obtain ⟨a, ns, rfl, ht, hl, q⟩ := h
  obtain ⟨u, rfl, ru⟩ := vals1 r
  cases ru
  obtain ⟨its, rv, hT, _⟩ := I.tuple ht
  have hb : scanBound = 4096 := by decide +kernel
  refine call_set_tupI ns (I.ok.hd hc) hT (by simpa using ints_of_vals rv) (by omega) fun h' tk c R hle hk => ?_
  have hn : H s.heap.objs.size = none := I.hok.fresh (Nat.le_refl _)
  obtain ⟨ks, k1, k2, k3⟩ := setR_size R
  refine ⟨.ref s.heap.objs.size, upd H s.heap.objs.size (SetO X.w s.heap.objs.size (fun j => decide (j ∈ ns)) c), I.laid (t' := tk) hk (Nat.le_refl _) ?_, rfl, q _ c ks hn k1 (fun k => by rw [k2 k]; simp) k3⟩
  exact setO_new R
/-- list(..), tuple(..), int(..), max, min, sorted -/
def rList (K : PySem.W.Frag) : List V → Hp → VK → Prop := fun xs H Q => ∃ p ys, xs = [.ref p] ∧ (SqL K H p ys ∨ SqT K H p ys) ∧ ∀ l, H l = none → Q (.ref l) (upd H l (.lst ys))
theorem cu_list : CallR X (.type "list") (rList X.K) := call_list_of
def rTuple (K : PySem.W.Frag) : List V → Hp → VK → Prop := fun xs H Q => ∃ p ys, xs = [.ref p] ∧ ((SqL K H p ys ∧ ∀ l, H l = none → Q (.ref l) (upd H l (.tup ys))) ∨ (SqT K H p ys ∧ Q (.ref p) H))
theorem cu_tuple : CallR X (.type "tuple") (rTuple X.K) := call_tuple_of
def rInt : List V → Hp → VK → Prop := fun xs H Q => ((∃ i, xs = [.int i] ∧ Q (.int i) H) ∨ ∃ k, xs = [.bl k] ∧ Q (.int (if k then 1 else 0)) H) ∨ ∃ a n, xs = [.str a] ∧ PySem.intText? a = some n ∧ a.length ≤ 640 ∧ Q (.int n) H
theorem cu_int : CallR X (.type "int") rInt := call_int1.or call_int_str
def rMax2 : List V → Hp → VK → Prop := fun xs H Q => ∃ i j, xs = [.int i, .int j] ∧ Q (.int (if j > i then j else i)) H
theorem cu_max (hc : X.calm = true) : CallR X (.builtin "max") rMax2 := call_max2 hc
def rMin2 : List V → Hp → VK → Prop := fun xs H Q => ∃ i j, xs = [.int i, .int j] ∧ Q (.int (if j < i then j else i)) H
theorem cu_min (hc : X.calm = true) : CallR X (.builtin "min") rMin2 := call_min2 hc
end

/-! ### the same, the written part named -/
section
variable {X : Cx} {K : PySem.W.Frag} {w : World}
theorem ku_add (h : X.K = K) : OpR X (binaryOp .Add) (uAdd K) := by subst h; exact ou_add
theorem ku_mul (h : X.K = K) : OpR X (binaryOp .Mult) (uMul K) := by subst h; exact ou_mul
theorem ku_eq (h : X.K = K) (hu : X.A.units + 64 < cLine) : OpR X (compareOp .Eq) (uEq K) := by subst h; exact ou_eq hu
theorem ku_ne (h : X.K = K) (hu : X.A.units + 64 < cLine) : OpR X (compareOp .NotEq) (uNe K) := by subst h; exact ou_ne hu
theorem ku_lt (h : X.K = K) (hu : X.A.units < cLine) : OpR X (compareOp .Lt) (uLt K) := by subst h; exact ou_lt hu
theorem ku_in (h : X.K = K) (hu : X.A.units + 1 < cLine) : OpR X (compareOp .In) (uIn K) := by subst h; exact ou_in hu
theorem ku_notin (h : X.K = K) (hu : X.A.units + 1 < cLine) : OpR X (compareOp .NotIn) (uNotIn K) := by subst h; exact ou_notin hu
theorem kixu (h : X.K = K) (hu : X.A.units + 1 < cLine) : IxR X (uIx K) := by subst h; exact ixu hu
theorem ksu (h : X.K = K) : SlR X (uSl K) := by subst h; exact su
theorem ku_len (h : X.K = K) (hw : X.w = w) : CallR X (.builtin "len") (uLen K w) := by subst h hw; exact cu_len
theorem ku_set (h : X.K = K) (hw : X.w = w) (hc : X.calm = true) : CallR X (.type "set") (rSetTI K w) := by subst h hw; exact call_setTI hc
theorem ku_list (h : X.K = K) : CallR X (.type "list") (rList K) := by subst h; exact cu_list
theorem ku_tuple (h : X.K = K) : CallR X (.type "tuple") (rTuple K) := by subst h; exact cu_tuple
theorem ku_all (h : X.K = K) (hc : X.calm = true) : CallR X (.builtin "all") (rAll K) := by subst h; exact cr_all hc
theorem ku_any (h : X.K = K) (hc : X.calm = true) : CallR X (.builtin "any") (rAny K) := by subst h; exact cr_any hc
theorem ku_sum (h : X.K = K) (hc : X.calm = true) : CallR X (.builtin "sum") (rSum K) := by subst h; exact cr_sum hc
theorem ku_isi (h : X.K = K) : CallR X (.builtin "isinstance") (rIsi K) := by subst h; exact call_isi
theorem ki_list {tg l : Expr} {tl : TE} (h : X.K = K) (hl : PE X l tl) : PI X tg l (iList K tl) := by subst h; exact pi_list hl
theorem ki_tup {tg l : Expr} {tl : TE} (h : X.K = K) (hl : PE X l tl) : PI X tg l (iTup K tl) := by subst h; exact pi_tup hl
theorem ke_fld {e : Expr} {f : Str} {pos : Pos} {ta : TE} (h : X.K = K) (he : PE X e ta) (hb : attributeBase e f X.env (eval e X.env) = eval e X.env) : PE X (.Attribute e f pos) (tFld K ta f) := by subst h; exact pe_fld he hb
theorem ks_fld {o value : Expr} {f : Str} {pos pos' : Pos} {ta tv : TE} (h : X.K = K) (ha : PE X o ta) (hv : PE X value tv) (hs : swapsWith value (some (.Attribute o f pos')) pos.line X.env = pure false) : PS X (.Assign [.Attribute o f pos'] value pos) (sFld K ta tv f) := by subst h; exact ps_fld ha hv hs
theorem ks_fldaug {o value : Expr} {f : Str} {pos tpos : Pos} {ta tv : TE} {op : Operator} {rd : V → V → Hp → VK → Prop} (h : X.K = K) (ha : PE X o ta) (hv : PE X value tv) (hop : InOp X op rd) : PS X (.AugAssign (.Attribute o f tpos) op value pos) (sFldAug K ta tv rd f) := by subst h; exact ps_fldaug ha hv hop
theorem kg_tup {es : List Expr} {k : Nat} {t : TGs} {n : Nat} {pos : Pos} (h : X.K = K) (hc : X.calm = true) (hg : PGs X es t)
    (hn : (assignEach es X.env).length = n := by rfl) (hst : (assignEach es X.env).findIdx? (·.1) = none := by rfl) : PG X (.Tuple es k pos) (gTup K n t) := by subst h; exact pg_tup hc hg hn hst
theorem ke_bm0 {T id : String} {name : Str} {r : V → List V → Hp → VK → Prop} {o : Expr} {to : TE} {apos cpos : Pos} (h : X.K = K) (pa : PlainAttrs T) (slot : Slot T name id) (hty : typeOf (.builtin id) = pure (.type "method_descriptor")) (hm : MtR X id r) (ho : PE X o to)
    (hbase : attributeBase o name X.env (eval o X.env) = eval o X.env := by rfl) (hline : (apos.endLine == cpos.line) = true := by rfl) : PE X (.Call (.Attribute o name apos) [] [] cpos) (tBM0 K T r to) := by subst h; exact pe_bm0 pa slot hty hm ho hbase hline
theorem ke_bm {T id : String} {name : Str} {r : V → List V → Hp → VK → Prop} {o e : Expr} {es : List Expr} {to : TE} {t : TA} {apos cpos : Pos} (h : X.K = K) (pa : PlainAttrs T) (slot : Slot T name id) (hty : typeOf (.builtin id) = pure (.type "method_descriptor")) (hm : MtR X id r) (ho : PE X o to) (ha : PA X (e :: es) t)
    (hbase : attributeBase o name X.env (eval o X.env) = eval o X.env := by rfl)
    (hfew : ((backTo cpos (starEach (e :: es) X.env)).all (fun x => !x.1) && (backToKw cpos (keywordEach [] X.env)).all (fun x => x.1.isSome)
      && decide ((e :: es).length + ([] : List Keyword).length + (if ([] : List Keyword).isEmpty then 0 else 1) < 30)) = true := by rfl)
    (hline : (apos.endLine == cpos.line) = true := by rfl) (hs : starEach (e :: es) X.env = (false, eval e X.env) :: starEach es X.env := by rfl) (hplain : (backTo cpos (starEach es X.env)).any (·.1) = false := by rfl) :
    PE X (.Call (.Attribute o name apos) (e :: es) [] cpos) (tBM K T r to t) := by subst h; exact pe_bm pa slot hty hm ho ha hbase hfew hline hs hplain
end
/-! ### defs, methods, classes as a caller uses them -/
section
variable {P : Program} {w : World} {K : PySem.W.Frag} {mg : Str → Option Value} {base : Heap}
/-- the def x of the module: a promise by level k -/
structure Df (P : Program) (w : World) (K : PySem.W.Frag) (mg : Str → Option Value) (base : Heap) (CX : CXT) (x : Str) (ps : List Str) (k : Nat) (sp : Sp) : Prop where
  ex : ∃ f fd, FnOk P w K mg base CX k f fd ps sp ∧ mg x = some (.ref f) ∧ PySem.W.keepIn K (.ref f) = true ∧ Binds K fd ps []
/-- the method m of the class at C -/
structure Dm (P : Program) (w : World) (K : PySem.W.Frag) (mg : Str → Option Value) (base : Heap) (CX : CXT) (C : Addr) (m : Str) (ps : List Str) (k : Nat) (sp : Sp) : Prop where
  cl : Cls K C
  ex : ∃ f fd, FnOk P w K mg base CX k f fd ps sp ∧ Meth K C m f ∧ Binds K fd ps []
/-- the class x -/
structure Dk (P : Program) (w : World) (K : PySem.W.Frag) (mg : Str → Option Value) (base : Heap) (CX : CXT) (C : Addr) (x : Str) (ps : List Str) (k : Nat) (sp : Sp) : Prop where
  ex : ∃ f fd, FnOk P w K mg base CX k f fd ps sp ∧ mg x = some (.ref C) ∧ Mk K C f ∧ Binds K fd ps []
end
section
variable {X : Cx} {CX : CXT} {k : Nat} {C : Addr} {ps : List Str} {sp : Sp} {E : XK} {x m : Str} {p pos apos : Pos} {e o : Expr} {es : List Expr} {ta : TE} {t : TA}
theorem pe_cdE (D : Df X.prog X.w X.K X.mg X.base CX x ps k sp) (hr : Room k X.A) (hg : Gl X x) (hx : Passes CX X E) (ha : PA X (e :: es) t) (hdb : (x == ("__debug__" : Str)) = false := by decide)
    (he : starEach (e :: es) X.env = (false, eval e X.env) :: starEach es X.env := by rfl) (hpl : (backTo pos (starEach es X.env)).any (·.1) = false := by rfl) : PE X (.Call (.Name x p) (e :: es) [] pos) (tCall sp [] E t) := by
  obtain ⟨f, fd, F, g, kp, b⟩ := D.ex
  exact pe_call F hr hg g kp b .nil hx ha hdb he hpl
theorem pe_cd0E (D : Df X.prog X.w X.K X.mg X.base CX x ps k sp) (hr : Room k X.A) (hg : Gl X x) (hx : Passes CX X E) (hdb : (x == ("__debug__" : Str)) = false := by decide) : PE X (.Call (.Name x p) [] [] pos) (tCall sp [] E tNil) := by
  obtain ⟨f, fd, F, g, kp, b⟩ := D.ex
  exact pe_call0 F hr hg g kp b .nil hx hdb
theorem pe_meE {pl : Sem Bool} (he : PE X o ta) (D : Dm X.prog X.w X.K X.mg X.base CX C m ps k sp) (hr : Room k X.A) (hx : Passes CX X E) (ha : PA X (e :: es) t)
    (hst : starEach (e :: es) X.env = (false, eval e X.env) :: starEach es X.env := by rfl) (hpl : (backTo pos (starEach es X.env)).any (·.1) = false := by rfl)
    (ht : eval (.Call (.Attribute o m apos) (e :: es) [] pos) X.env = (do
      let ov ← eval o X.env
      standAt apos.atName
      let (f, first) ← holding [ov] (getMethod ov m pl)
      callWith pos f first (backTo pos (starEach (e :: es) X.env)) (backToKw pos (keywordEach [] X.env))) := by rfl) :
    PE X (.Call (.Attribute o m apos) (e :: es) [] pos) (tMeth C m sp [] E ta t) := by
  obtain ⟨f, fd, F, g, b⟩ := D.ex
  exact pe_meth he D.cl g F hr b .nil hx ha hst hpl ht
theorem pe_me0E {pl : Sem Bool} (he : PE X o ta) (D : Dm X.prog X.w X.K X.mg X.base CX C m ps k sp) (hr : Room k X.A) (hx : Passes CX X E)
    (ht : eval (.Call (.Attribute o m apos) [] [] pos) X.env = (do
      let ov ← eval o X.env
      standAt apos.atName
      let (f, first) ← holding [ov] (getMethod ov m pl)
      callWith pos f first (backTo pos (starEach [] X.env)) (backToKw pos (keywordEach [] X.env))) := by rfl) :
    PE X (.Call (.Attribute o m apos) [] [] pos) (tMeth C m sp [] E ta tNil) := by
  obtain ⟨f, fd, F, g, b⟩ := D.ex
  exact pe_meth0 he D.cl g F hr b .nil hx ht
theorem pe_cmE (D : Dk X.prog X.w X.K X.mg X.base CX C x ps k sp) (hr : Room (k + 1) X.A) (hg : Gl X x) (hx : Passes CX X E) (ha : PA X (e :: es) t) (hdb : (x == ("__debug__" : Str)) = false := by decide)
    (he : starEach (e :: es) X.env = (false, eval e X.env) :: starEach es X.env := by rfl) (hpl : (backTo pos (starEach es X.env)).any (·.1) = false := by rfl) : PE X (.Call (.Name x p) (e :: es) [] pos) (tMake C sp [] E t) := by
  obtain ⟨f, fd, F, g, M, b⟩ := D.ex
  exact pe_make M F hr hg g b .nil hx ha hdb he hpl
theorem pe_cm0E (D : Dk X.prog X.w X.K X.mg X.base CX C x ps k sp) (hr : Room (k + 1) X.A) (hg : Gl X x) (hx : Passes CX X E) (hdb : (x == ("__debug__" : Str)) = false := by decide) : PE X (.Call (.Name x p) [] [] pos) (tMake C sp [] E tNil) := by
  obtain ⟨f, fd, F, g, M, b⟩ := D.ex
  exact pe_make0 M F hr hg g b .nil hx hdb
end

section
variable {X : Cx} {k : Nat} {C : Addr} {ps : List Str} {sp : Sp} {x m : Str} {p pos apos : Pos} {e o : Expr} {es : List Expr} {ta : TE} {t : TA}
theorem pe_cd (D : Df X.prog X.w X.K X.mg X.base CX0 x ps k sp) (hr : Room k X.A) (hg : Gl X x) (ha : PA X (e :: es) t) (hdb : (x == ("__debug__" : Str)) = false := by decide)
    (he : starEach (e :: es) X.env = (false, eval e X.env) :: starEach es X.env := by rfl) (hpl : (backTo pos (starEach es X.env)).any (·.1) = false := by rfl) : PE X (.Call (.Name x p) (e :: es) [] pos) (tCall sp [] E0 t) := pe_cdE D hr hg pass0 ha hdb he hpl
theorem pe_cd0 (D : Df X.prog X.w X.K X.mg X.base CX0 x ps k sp) (hr : Room k X.A) (hg : Gl X x) (hdb : (x == ("__debug__" : Str)) = false := by decide) : PE X (.Call (.Name x p) [] [] pos) (tCall sp [] E0 tNil) := pe_cd0E D hr hg pass0 hdb
theorem pe_cm (D : Dk X.prog X.w X.K X.mg X.base CX0 C x ps k sp) (hr : Room (k + 1) X.A) (hg : Gl X x) (ha : PA X (e :: es) t) (hdb : (x == ("__debug__" : Str)) = false := by decide)
    (he : starEach (e :: es) X.env = (false, eval e X.env) :: starEach es X.env := by rfl) (hpl : (backTo pos (starEach es X.env)).any (·.1) = false := by rfl) : PE X (.Call (.Name x p) (e :: es) [] pos) (tMake C sp [] E0 t) := pe_cmE D hr hg pass0 ha hdb he hpl
theorem pe_cm0 (D : Dk X.prog X.w X.K X.mg X.base CX0 C x ps k sp) (hr : Room (k + 1) X.A) (hg : Gl X x) (hdb : (x == ("__debug__" : Str)) = false := by decide) : PE X (.Call (.Name x p) [] [] pos) (tMake C sp [] E0 tNil) := pe_cm0E D hr hg pass0 hdb
theorem pe_me {pl : Sem Bool} (he : PE X o ta) (D : Dm X.prog X.w X.K X.mg X.base CX0 C m ps k sp) (hr : Room k X.A) (ha : PA X (e :: es) t)
    (hst : starEach (e :: es) X.env = (false, eval e X.env) :: starEach es X.env := by rfl) (hpl : (backTo pos (starEach es X.env)).any (·.1) = false := by rfl)
    (ht : eval (.Call (.Attribute o m apos) (e :: es) [] pos) X.env = (do
      let ov ← eval o X.env
      standAt apos.atName
      let (f, first) ← holding [ov] (getMethod ov m pl)
      callWith pos f first (backTo pos (starEach (e :: es) X.env)) (backToKw pos (keywordEach [] X.env))) := by rfl) :
    PE X (.Call (.Attribute o m apos) (e :: es) [] pos) (tMeth C m sp [] E0 ta t) := pe_meE he D hr pass0 ha hst hpl ht
theorem pe_me0 {pl : Sem Bool} (he : PE X o ta) (D : Dm X.prog X.w X.K X.mg X.base CX0 C m ps k sp) (hr : Room k X.A)
    (ht : eval (.Call (.Attribute o m apos) [] [] pos) X.env = (do
      let ov ← eval o X.env
      standAt apos.atName
      let (f, first) ← holding [ov] (getMethod ov m pl)
      callWith pos f first (backTo pos (starEach [] X.env)) (backToKw pos (keywordEach [] X.env))) := by rfl) :
    PE X (.Call (.Attribute o m apos) [] [] pos) (tMeth C m sp [] E0 ta tNil) := pe_me0E he D hr pass0 ht
theorem pe_globI {x : Str} {i : Int} {pos : Pos} (hm : ∃ t, X.mg x = some (.int i t)) (hg : Gl X x := by rfl) (hd : (x == ("__debug__" : Str)) = false := by decide) : PE X (.Name x pos) (tC (.int i)) := by
  obtain ⟨t, e⟩ := hm
  exact pe_glob hg e ⟨_, rfl⟩ hd
theorem pe_globS {x : Str} {z : Str} {pos : Pos} (hm : ∃ t, X.mg x = some (.str z t)) (hg : Gl X x := by rfl) (hd : (x == ("__debug__" : Str)) = false := by decide) : PE X (.Name x pos) (tC (.str z)) := by
  obtain ⟨t, e⟩ := hm
  exact pe_glob hg e ⟨_, rfl⟩ hd
end
/-! ### the defs as they stand in the text -/
section
variable {P : Program} {w : World} {K : PySem.W.Frag} {mg : Str → Option Value} {base : Heap} {CX : CXT} {k : Nat} {sp : Sp}
structure Fd (K : PySem.W.Frag) (mg : Str → Option Value) (x : Str) (st : Stmt) (ps : List Str) : Prop where
  ex : ∃ f fd, Fun K x x st f fd ∧ mg x = some (.ref f) ∧ Binds K fd ps []
theorem Fd.df {x : Str} {st : Stmt} {ps : List Str} (h : Fd K mg x st ps) (ok : ∀ f fd, Fun K x x st f fd → FnOk P w K mg base CX k f fd ps sp) : Df P w K mg base CX x ps k sp := by
  obtain ⟨f, fd, F, g, b⟩ := h.ex
  exact ⟨f, fd, ok f fd F, g, F.kp, b⟩
structure Fm (K : PySem.W.Frag) (C : Addr) (m qual : Str) (st : Stmt) (ps : List Str) : Prop where
  ex : ∃ f fd, Fun K m qual st f fd ∧ Meth K C m f ∧ Binds K fd ps []
theorem Fm.dm {C : Addr} {m qual : Str} {st : Stmt} {ps : List Str} (cl : Cls K C) (h : Fm K C m qual st ps) (ok : ∀ f fd, Fun K m qual st f fd → FnOk P w K mg base CX k f fd ps sp) : Dm P w K mg base CX C m ps k sp := by
  obtain ⟨f, fd, F, g, b⟩ := h.ex
  exact ⟨cl, f, fd, ok f fd F, g, b⟩
structure Fk (K : PySem.W.Frag) (mg : Str → Option Value) (C : Addr) (x qual : Str) (st : Stmt) (ps : List Str) : Prop where
  ex : ∃ f fd, Fun K "__init__" qual st f fd ∧ mg x = some (.ref C) ∧ Mk K C f ∧ Binds K fd ps []
theorem Fk.dk {C : Addr} {x qual : Str} {st : Stmt} {ps : List Str} (h : Fk K mg C x qual st ps) (ok : ∀ f fd, Fun K "__init__" qual st f fd → FnOk P w K mg base CX k f fd ps sp) : Dk P w K mg base CX C x ps k sp := by
  obtain ⟨f, fd, F, g, M, b⟩ := h.ex
  exact ⟨f, fd, ok f fd F, g, M, b⟩
theorem Df.mono {x : Str} {ps : List Str} {j : Nat} (D : Df P w K mg base CX x ps j sp) (h : j ≤ k) : Df P w K mg base CX x ps k sp := by
  obtain ⟨f, fd, F, g⟩ := D.ex
  exact ⟨f, fd, F.mono h, g⟩
end

/-! ### readings, step by step -/
section
variable {K : PySem.W.Frag} {σ : L2.St} {H : Hp} {Q : VK} {D : Ends} {te ta tb tc : TE} {tt tu : TT} {r r' : R2} {t u : TS} {a b : Addr} {xs ys : List V} {i j : Int} {v v' : V}
theorem r_var {n : Nat} (h : σ[n]? = some (some v)) (k : Q v H) : tVar n σ H Q := ⟨v, h, k⟩
theorem r_c (k : Q v H) : tC v σ H Q := k
theorem r_op (k : ta σ H fun x H1 => tb σ H1 fun y H2 => r x y H2 Q) : tOp r ta tb σ H Q := k
theorem r_un {r : V → Hp → VK → Prop} (k : ta σ H fun x H1 => r x H1 Q) : tUn r ta σ H Q := k
theorem r_neg (k : Q (.int (-i)) H) : rU (fun i => .int (-i)) (.int i) H Q := ⟨i, rfl, k⟩
theorem r_I0 {g : Int → Int → V} (k : Q (g i j) H) : rI0 g (.int i) (.int j) H Q := ⟨i, j, rfl, rfl, k⟩
theorem r_I {C : Int → Int → Prop} {g : Int → Int → V} (c : C i j) (k : Q (g i j) H) : rI C g (.int i) (.int j) H Q := ⟨i, j, rfl, rfl, c, k⟩
theorem r_addI (k : Q (.int (i + j)) H) : uAdd K (.int i) (.int j) H Q := .inl ⟨i, j, rfl, rfl, k⟩
theorem r_addS {x y : Str} (h : x.length + y.length ≤ sizeLine) (k : Q (.str (x ++ y)) H) : uAdd K (.str x) (.str y) H Q := .inr (.inl ⟨x, y, rfl, rfl, h, k⟩)
theorem r_addT (ha : SqT K H a xs) (hb : SqT K H b ys) (hl : xs.length + ys.length ≤ sizeLine) (k : ∀ p H', Same H H' → SqT K H' p (xs ++ ys) → Q (.ref p) H') : uAdd K (.ref a) (.ref b) H Q := by
  refine .inr (.inr (.inl ⟨a, b, xs, ys, rfl, rfl, ha, hb, hl, fun e => ?_, fun _ e => ?_, fun _ _ p np => k p _ (Same.new np) (.inl (.inl upd_same))⟩))
  · subst e; exact k b H (Same.refl H) hb
  · subst e; exact k a H (Same.refl H) (by rw [List.append_nil]; exact ha)
theorem r_addL (ha : H a = some (.lst xs)) (hb : H b = some (.lst ys)) (hl : xs.length + ys.length ≤ sizeLine) (k : ∀ p, H p = none → Q (.ref p) (upd H p (.lst (xs ++ ys)))) : uAdd K (.ref a) (.ref b) H Q :=
  .inr (.inr (.inr ⟨a, b, xs, ys, rfl, rfl, ha, hb, hl, k⟩))
theorem r_mulI {m n : Nat} (ha : i.natAbs < 2 ^ m) (hb : j.natAbs < 2 ^ n) (h : m + n ≤ 134217728) (k : Q (.int (i * j)) H) : uMul K (.int i) (.int j) H Q := .inl ⟨i, j, rfl, rfl, mulx_ok ha hb h, k⟩
theorem r_mulL (ha : H a = some (.lst xs)) (h0 : 0 ≤ j) (h1 : j ≤ 1000) (hl : xs.length * j.toNat ≤ sizeLine) (k : ∀ p, H p = none → Q (.ref p) (upd H p (.lst (List.replicate j.toNat xs).flatten))) : uMul K (.ref a) (.int j) H Q :=
  .inr (.inl ⟨a, j, xs, rfl, rfl, ha, by omega, by omega, hl, k⟩)
theorem r_eqS (h : scal v v' = true) (k : Q (.bl (decide (v = v'))) H) : uEq K v v' H Q := .inl ⟨h, k⟩
theorem r_neS (h : scal v v' = true) (k : Q (.bl (!decide (v = v'))) H) : uNe K v v' H Q := .inl ⟨h, k⟩
theorem r_eqD {d e : PyData} (h : Dp K H v d) (h' : Dp K H v' e) (sd : SeqAt.shaped d = true) (se : SeqAt.shaped e = true) (k : Q (.bl (PyData.eqv d e)) H) : uEq K v v' H Q := .inr ⟨d, e, h, h', sd, se, k⟩
theorem r_neD {d e : PyData} (h : Dp K H v d) (h' : Dp K H v' e) (sd : SeqAt.shaped d = true) (se : SeqAt.shaped e = true) (k : Q (.bl (!PyData.eqv d e)) H) : uNe K v v' H Q := .inr ⟨d, e, h, h', sd, se, k⟩
theorem r_ltI (k : Q (.bl (decide (i < j))) H) : uLt K (.int i) (.int j) H Q := .inl ⟨i, j, rfl, rfl, k⟩
theorem r_non {A : Prop} (k : A) : V.non = V.non ∧ A := ⟨rfl, k⟩
theorem r_isN (k : Q (.bl (decide (v = .non))) H) : (fun x y H Q => y = V.non ∧ Q (.bl (decide (x = .non))) H : R2) v .non H Q := ⟨rfl, k⟩
theorem r_notN (k : Q (.bl (!decide (v = .non))) H) : (fun x y H Q => y = V.non ∧ Q (.bl (!decide (x = .non))) H : R2) v .non H Q := ⟨rfl, k⟩
theorem r_inD {kvs : List (Key × V)} {n : Int} (h : H a = some (.dK kvs)) (k : Q (.bl (valV kvs (.inl n)).isSome) H) : uIn K (.int n) (.ref a) H Q := .inl ⟨a, _, rfl, DGet.k (k := .inl n) h, k⟩
theorem r_inT (h : SqT K H a xs) (hv : flatV v = true) (hx : xs.all flatV = true) (k : Q (.bl (inV v xs)) H) : uIn K v (.ref a) H Q := .inr (.inl ⟨a, xs, rfl, .inr h, hv, hx, k⟩)
theorem r_inL (h : SqL K H a xs) (hv : flatV v = true) (hx : xs.all flatV = true) (k : Q (.bl (inV v xs)) H) : uIn K v (.ref a) H Q := .inr (.inl ⟨a, xs, rfl, .inl h, hv, hx, k⟩)
theorem r_inS {c : Nat} {z : Str} (k : Q (.bl (decide (c ∈ z.cps.toList))) H) : uIn K (.str ⟨#[c]⟩) (.str z) H Q := .inr (.inr ⟨c, z, rfl, rfl, k⟩)
theorem r_niD {kvs : List (Key × V)} {n : Int} (h : H a = some (.dK kvs)) (k : Q (.bl (!(valV kvs (.inl n)).isSome)) H) : uNotIn K (.int n) (.ref a) H Q := .inl ⟨a, _, rfl, DGet.k (k := .inl n) h, k⟩
theorem r_niT (h : SqT K H a xs) (hv : flatV v = true) (hx : xs.all flatV = true) (k : Q (.bl (!inV v xs)) H) : uNotIn K v (.ref a) H Q := .inr (.inl ⟨a, xs, rfl, .inr h, hv, hx, k⟩)
theorem r_niL (h : SqL K H a xs) (hv : flatV v = true) (hx : xs.all flatV = true) (k : Q (.bl (!inV v xs)) H) : uNotIn K v (.ref a) H Q := .inr (.inl ⟨a, xs, rfl, .inl h, hv, hx, k⟩)
theorem r_ixD {kvs : List (Key × V)} {n : Int} (h : H a = some (.dK kvs)) (hv : valV kvs (.inl n) = some v) (k : Q v H) : uIx K (.ref a) (.int n) H Q :=
  .inl ⟨a, v, rfl, by rw [← hv]; exact DGet.k (k := .inl n) h, k⟩
theorem r_ixL (h : SqL K H a xs) (hv : atI xs i = some v) (k : Q v H) : uIx K (.ref a) (.int i) H Q := .inr (.inl ⟨a, xs, i, v, rfl, rfl, h, hv, k⟩)
theorem r_ixT (h : SqT K H a xs) (hv : atI xs i = some v) (k : Q v H) : uIx K (.ref a) (.int i) H Q := .inr (.inr (.inl ⟨a, xs, i, v, rfl, rfl, h, hv, k⟩))
theorem r_ixS {z : Str} {c : Nat} (h : z.length ≤ sizeLine) (hv : atI z.cps.toList i = some c) (k : Q (.str ⟨#[c]⟩) H) : uIx K (.str z) (.int i) H Q := .inr (.inr (.inr ⟨z, i, c, rfl, rfl, h, hv, k⟩))
theorem r_setL {Q : Hp → Prop} {n : Nat} (h : H a = some (.lst xs)) (hn : ixN xs.length i = some n) (k : Q (upd H a (.lst (xs.set n v)))) : uSet (.ref a) (.int i) v H Q := .inl ⟨a, xs, i, n, rfl, rfl, h, hn, k⟩
theorem r_setD {Q : Hp → Prop} {kvs : List (Key × V)} {n : Int} (h : H a = some (.dK kvs)) (hl : kvs.length < sizeLine) (k : Q (upd H a (.dK (putK kvs (.inl n) v)))) : uSet (.ref a) (.int n) v H Q :=
  .inr ⟨a, _, rfl, DPut.k (k := .inl n) h hl, k⟩
theorem r_slL {lo hi : Option Int} (h : SqL K H a xs) (k : ∀ p, H p = none → Q (.ref p) (upd H p (.lst (cutV xs lo hi)))) : uSl K (.ref a) lo hi H Q := .inl ⟨a, xs, rfl, h, k⟩
theorem cut_all {lo hi : Option Int} {xs : List V} (h : HT.sIx xs.length 0 lo = 0 ∧ HT.sIx xs.length xs.length hi = xs.length) : cutV xs lo hi = xs := by
  unfold cutV
  rw [h.1, h.2]
  simp
theorem r_slT {lo hi : Option Int} (h : SqT K H a xs) (k : ∀ p H', Same H H' → SqT K H' p (cutV xs lo hi) → Q (.ref p) H') : uSl K (.ref a) lo hi H Q :=
  .inr (.inl ⟨a, xs, rfl, h, fun c => k a H (Same.refl H) (by rw [cut_all c]; exact h), fun _ p np => k p _ (Same.new np) (.inl (.inl upd_same))⟩)
theorem r_slS {lo hi : Option Int} {z : Str} (h : z.length ≤ sizeLine) (k : Q (.str (cutS z lo hi)) H) : uSl K (.str z) lo hi H Q := .inr (.inr ⟨z, rfl, h, k⟩)
theorem r_sl {r : V → Option Int → Option Int → Hp → VK → Prop} {tl th : TO} (k : te σ H fun x H1 => tl σ H1 fun l H2 => th σ H2 fun u H3 => r x l u H3 Q) : tSl r te tl th σ H Q := k
theorem r_noPart {Q : Option Int → Hp → Prop} (k : Q none H) : tNoPart σ H Q := k
theorem r_part {Q : Option Int → Hp → Prop} (k : te σ H fun x H1 => ∃ i, x = .int i ∧ Q (some i) H1) : tPart te σ H Q := k
theorem r_exI {Q : Int → Prop} (k : Q i) : ∃ j, V.int i = .int j ∧ Q j := ⟨i, rfl, k⟩
theorem r_exB {Q : Bool → Prop} {c : Bool} (k : Q c) : ∃ j, V.bl c = .bl j ∧ Q j := ⟨c, rfl, k⟩
theorem r_tB {Q : Bool → Hp → Prop} (k : te σ H fun x H1 => ∃ c, x = .bl c ∧ Q c H1) : tB te σ H Q := k
theorem r_test {Q : Bool → Hp → Prop} (k : te σ H fun x H1 => ∃ c, x = .bl c ∧ Q c H1) : tTest te σ H Q := k
theorem r_and {Q : Bool → Hp → Prop} (k : tt σ H fun c H1 => if c = true then tu σ H1 Q else Q false H1) : tAnd tt tu σ H Q := k
theorem r_or {Q : Bool → Hp → Prop} (k : tt σ H fun c H1 => if c = true then Q true H1 else tu σ H1 Q) : tOr tt tu σ H Q := k
theorem r_not {Q : Bool → Hp → Prop} (k : tt σ H fun c H1 => Q (!c) H1) : tNot tt σ H Q := k
theorem r_andV (k : ta σ H fun x H1 => ∃ c, x = .bl c ∧ if c = true then tb σ H1 Q else Q (.bl false) H1) : tAndV ta tb σ H Q := k
theorem r_orV (k : ta σ H fun x H1 => ∃ c, x = .bl c ∧ if c = true then Q (.bl true) H1 else tb σ H1 Q) : tOrV ta tb σ H Q := k
theorem r_notV (k : ta σ H fun x H1 => ∃ c, x = .bl c ∧ Q (.bl (!c)) H1) : tNotV ta σ H Q := k
theorem r_if (k : tt σ H fun c H1 => if c = true then ta σ H1 Q else tb σ H1 Q) : tIf tt ta tb σ H Q := k
theorem r_chain (k : ta σ H fun x H1 => tb σ H1 fun y H2 => r x y H2 fun z H3 => ∃ c, z = .bl c ∧ if c = true then tc σ H3 fun y' H4 => r' y y' H4 Q else Q (.bl false) H3) : tChain r r' ta tb tc σ H Q := k
theorem r_ifS (k : tt σ H fun c H1 => if c = true then t D σ H1 else u D σ H1) : tIfS tt t u D σ H := k
theorem r_seq (k : t { D with nx := u D } σ H) : tSeq t u D σ H := k
theorem r_asg {g : TG} (k : te σ H fun x H1 => g x σ H1 D.nx) : tAsg te g D σ H := k
theorem r_gName {n : Nat} {Q : L2.St → Hp → Prop} (k : Q (σ.set n (some v)) H) : gName n v σ H Q := k
theorem r_gSub {ts : TSet} {Q : L2.St → Hp → Prop} (k : ta σ H fun o H1 => tb σ H1 fun i H2 => ts o i v H2 fun H3 => Q σ H3) : gSub ta tb ts v σ H Q := k
theorem r_gTup {n : Nat} {gs : TGs} {Q : L2.St → Hp → Prop} (h : SqT K H a xs) (hl : xs.length = n) (k : gs xs σ H Q) : gTup K n gs (.ref a) σ H Q := ⟨a, xs, rfl, h, hl, k⟩
theorem r_gCons {g : TG} {gs : TGs} {Q : L2.St → Hp → Prop} (k : g v σ H fun σ' H' => gs xs σ' H' Q) : gCons g gs (v :: xs) σ H Q := ⟨v, xs, rfl, k⟩
theorem r_gNil {Q : L2.St → Hp → Prop} (k : Q σ H) : gNil [] σ H Q := ⟨rfl, k⟩
theorem r_par {n m : Nat} {ts : TA} (k : ts σ H fun vs H1 => ∃ v w, vs = [v, w] ∧ D.nx ((σ.set n (some v)).set m (some w)) H1) : tPar n m ts D σ H := k
theorem r_ex2 {Q : V → V → Prop} (k : Q v v') : ∃ x y, [v, v'] = [x, y] ∧ Q x y := ⟨v, v', rfl, k⟩
theorem r_aug {n : Nat} {ti : TIp} (h : σ[n]? = some (some v)) (k : te σ H fun y H1 => ti v y H1 fun z H2 => D.nx (σ.set n (some z)) H2) : tAug n te ti D σ H := ⟨v, h, k⟩
theorem r_ipI {f : Int → Int → Int} (k : Q (.int (f i j)) H) : ipI f (.int i) (.int j) H Q := ⟨i, j, rfl, rfl, k⟩
theorem r_drop (k : te σ H fun _ H1 => D.nx σ H1) : tDrop te D σ H := k
theorem r_ret (k : te σ H D.rt) : tRet te D σ H := k
theorem r_retN (k : D.rt .non H) : tRetN D σ H := k
theorem r_next (k : D.nx σ H) : tNext D σ H := k
theorem r_break (k : D.bk σ H) : tBreak D σ H := k
theorem r_cont (k : D.ct σ H) : tCont D σ H := k
theorem r_nil {Q : List V → Hp → Prop} (k : Q [] H) : tNil σ H Q := k
theorem r_cons {tr : TA} {Q : List V → Hp → Prop} (k : ta σ H fun x H1 => tr σ H1 fun ys H2 => Q (x :: ys) H2) : tCons ta tr σ H Q := k
theorem r_tup {ts : TA} (k : ts σ H fun ys H1 => ys.length ≤ sizeLine ∧ ∀ p, H1 p = none → Q (.ref p) (upd H1 p (.tup ys))) : tTup ts σ H Q := k
theorem r_lst {ts : TA} (k : ts σ H fun ys H1 => ys.length ≤ sizeLine ∧ ∀ p, H1 p = none → Q (.ref p) (upd H1 p (.lst ys))) : tLst ts σ H Q := k
theorem r_call {sp : Sp} {E : XK} {ts : TA} (k : ts σ H fun vs H1 => sp (vs ++ []) H1 Q E) : tCall sp [] E ts σ H Q := k
theorem r_meth {C : Addr} {m : Str} {sp : Sp} {E : XK} {ts : TA} (k : ta σ H fun x H1 => ∃ a dx fs, x = .ref a ∧ H1 a = some (.ins C dx fs) ∧ fs.lookup m = none ∧ ts σ H1 fun vs H2 => sp (x :: (vs ++ [])) H2 Q E) : tMeth C m sp [] E ta ts σ H Q := k
theorem r_make {C : Addr} {sp : Sp} {E : XK} {ts : TA} (k : ts σ H fun vs H1 => ∀ x dx, H1 x = none → H1 dx = none → dx ≠ x → sp (.ref x :: (vs ++ [])) (upd (upd H1 dx (.own x)) x (.ins C dx [])) (fun v H2 => v = .non ∧ Q (.ref x) H2) E) : tMake C sp [] E ts σ H Q := k
theorem r_cb {rc : List V → Hp → VK → Prop} {ts : TA} (k : ts σ H fun vs H1 => rc vs H1 Q) : tCB rc ts σ H Q := k
theorem r_bm {T : String} {rm : V → List V → Hp → VK → Prop} {ts : TA} (k : ta σ H fun x H1 => tyV K T x H1 ∧ ts σ H1 fun vs H2 => rm x vs H2 Q) : tBM K T rm ta ts σ H Q := k
theorem r_bm0 {T : String} {rm : V → List V → Hp → VK → Prop} (k : ta σ H fun x H1 => tyV K T x H1 ∧ rm x [] H1 Q) : tBM0 K T rm ta σ H Q := k
theorem r_fld {f : Str} (k : ta σ H fun x H1 => ∃ a C dx fs v, x = .ref a ∧ H1 a = some (.ins C dx fs) ∧ Cls K C ∧ NoAttr K C f ∧ fs.lookup f = some v ∧ Q v H1) : tFld K ta f σ H Q := k
theorem r_sfld {f : Str} (k : te σ H fun y H1 => ta σ H1 fun x H2 => ∃ a C dx fs, x = .ref a ∧ H2 a = some (.ins C dx fs) ∧ Cls K C ∧ NoAttr K C f ∧ fs.length < 1000 ∧ D.nx σ (upd H2 a (.ins C dx (putF f y fs)))) : sFld K ta te f D σ H := k
-- built-ins by values
theorem r_lenS {w : World} {z : Str} (h : z.length ≤ sizeLine) (k : Q (.int z.length) H) : uLen K w [.str z] H Q := .inl ⟨z, rfl, h, k⟩
theorem r_lenL {w : World} (h : SqL K H a xs) (k : Q (.int xs.length) H) : uLen K w [.ref a] H Q := .inr (.inl ⟨a, xs, rfl, .inl h, k⟩)
theorem r_lenT {w : World} (h : SqT K H a xs) (k : Q (.int xs.length) H) : uLen K w [.ref a] H Q := .inr (.inl ⟨a, xs, rfl, .inr h, k⟩)
theorem r_lenD {w : World} {kvs : List (Key × V)} (h : H a = some (.dK kvs)) (k : Q (.int kvs.length) H) : uLen K w [.ref a] H Q := .inr (.inr (.inl ⟨a, kvs, rfl, h, k⟩))
theorem r_lenSet {w : World} {S : Int → Bool} {n : Nat} (h : H a = some (SetO w a S n)) (hn : n ≤ 1000000) (k : Q (.int n) H) : uLen K w [.ref a] H Q := .inr (.inr (.inr ⟨a, S, n, rfl, h, hn, k⟩))
theorem r_isi {x c : V} {ty uc : Value} {b : Bool} (hc : ClsV c uc) (h : TyX K H x ty) (hk : PySem.W.kitOne K ty uc = some b) (k : Q (.bl b) H) : rIsi K [x, c] H Q := ⟨x, c, ty, uc, b, rfl, hc, h, hk, k⟩
theorem r_all {bs : List Bool} (h : SqL K H a (bs.map V.bl)) (k : Q (.bl (bs.all id)) H) : rAll K [.ref a] H Q := ⟨a, bs, rfl, h, k⟩
theorem r_setTI {w : World} {ns : List Int} (h : SqT K H a (ns.map V.int)) (hl : ns.length < 4000) (k : ∀ p n (ks : List Int), H p = none → ks.Nodup → (∀ k, k ∈ ks ↔ k ∈ ns) → ks.length = n → Q (.ref p) (upd H p (SetO w p (fun j => decide (j ∈ ns)) n))) : rSetTI K w [.ref a] H Q := ⟨a, ns, rfl, h, hl, k⟩
theorem r_max2 (k : Q (.int (if j > i then j else i)) H) : rMax2 [.int i, .int j] H Q := ⟨i, j, rfl, k⟩
theorem r_min2 (k : Q (.int (if j < i then j else i)) H) : rMin2 [.int i, .int j] H Q := ⟨i, j, rfl, k⟩
theorem r_intI (k : Q (.int i) H) : rInt [.int i] H Q := .inl (.inl ⟨i, rfl, k⟩)
theorem r_intB {c : Bool} (k : Q (.int (if c then 1 else 0)) H) : rInt [.bl c] H Q := .inl (.inr ⟨c, rfl, k⟩)
theorem r_intS {z : Str} {n : Int} (h : PySem.intText? z = some n) (hl : z.length ≤ 640) (k : Q (.int n) H) : rInt [.str z] H Q := .inr ⟨z, n, rfl, h, hl, k⟩
theorem r_listL (h : SqL K H a xs) (k : ∀ l, H l = none → Q (.ref l) (upd H l (.lst xs))) : rList K [.ref a] H Q := ⟨a, xs, rfl, .inl h, k⟩
theorem r_listT (h : SqT K H a xs) (k : ∀ l, H l = none → Q (.ref l) (upd H l (.lst xs))) : rList K [.ref a] H Q := ⟨a, xs, rfl, .inr h, k⟩
theorem r_tupleL (h : SqL K H a xs) (k : ∀ p H', Same H H' → SqT K H' p xs → Q (.ref p) H') : rTuple K [.ref a] H Q := ⟨a, xs, rfl, .inl ⟨h, fun p np => k p _ (Same.new np) (.inl (.inl upd_same))⟩⟩
theorem r_tupleT (h : SqT K H a xs) (k : ∀ p H', Same H H' → SqT K H' p xs → Q (.ref p) H') : rTuple K [.ref a] H Q := ⟨a, xs, rfl, .inr ⟨h, k a H (Same.refl H) h⟩⟩
theorem r_appL (h : H a = some (.lst xs)) (hl : xs.length < sizeLine) (k : Q .non (upd H a (.lst (xs ++ [v])))) : rAppend (.ref a) [v] H Q := ⟨a, xs, v, rfl, rfl, h, hl, k⟩
theorem r_extL (h : H a = some (.lst xs)) (hb : H b = some (.lst ys)) (hl : xs.length + ys.length ≤ sizeLine) (k : Q .non (upd H a (.lst (xs ++ ys)))) : rExtend (.ref a) [.ref b] H Q := ⟨a, b, xs, ys, rfl, rfl, h, hb, hl, k⟩
theorem r_pop {x : V} {zs : List V} (h : H a = some (.lst (zs ++ [x]))) (k : Q x (upd H a (.lst zs))) : rPop (.ref a) [] H Q := ⟨a, zs ++ [x], x, rfl, rfl, h, by simp, by rw [List.dropLast_concat]; exact k⟩
theorem ty_list {xs : List V} (h : H a = some (.lst xs)) : tyV K "list" (.ref a) H := .inl ⟨rfl, _, .inl (.inl h)⟩
end
section
variable {H H' : Hp} {a p : Addr} {o u : HO} {K : PySem.W.Frag} {xs : List V}
theorem ne_new {b : Addr} (h' : H b = none) (h : H a = some o) : a ≠ b := ne_of_none h h'
theorem ne_new' {b : Addr} (h' : H a = none) (h : H b = some o) : a ≠ b := (ne_of_none h h').symm
theorem at_ne {b : Addr} (h : b ≠ a) (k : H b = some o) : upd H a u b = some o := (upd_ne h).trans k
theorem sqT_at (h : H a = some (.tup xs)) : SqT K H a xs := .inl (.inl h)
theorem sqL_at (h : H a = some (.lst xs)) : SqL K H a xs := .inl (.inl h)
theorem sqT_same (e : Same H H') (h : SqT K H a xs) : SqT K H' a xs := e.sqT h
theorem sqL_same (e : Same H H') (h : SqL K H a xs) : SqL K H' a xs := e.seq h
theorem sqT_fr {S : List Addr} (e : Fr S H H') (h : SqT K H a xs) : SqT K H' a xs := e.sqT h
theorem sqT_new (e : H p = none) (h : SqT K H a xs) : SqT K (upd H p u) a xs := (Same.new e).sqT h
theorem sqL_new (e : H p = none) (h : SqL K H a xs) : SqL K (upd H p u) a xs := (Same.new e).seq h
theorem sqT_put {ys : List V} (e : H p = some (.lst ys)) (h : SqT K H a xs) : SqT K (upd H p u) a xs := sqT_upd h fun o' q => by
  rw [e] at q; cases q; exact fun z => z
theorem same_at (e : Same H H') (h : H a = some o) : H' a = some o := e _ _ h
theorem sqT_upd2 (h : H p = some o) (ho : ¬ Imm o) (q : SqT K H a xs) : SqT K (upd H p u) a xs := sqT_upd q fun o' e => by
  rw [h] at e
  cases e
  exact ho
theorem trivial_imm {xs : List V} : ¬ Imm (.lst xs) := fun h => h
theorem r_ifT {A B : Prop} {c : Bool} (h : c = true) (k : A) : if c = true then A else B := by rw [if_pos h]; exact k
theorem r_ifF {A B : Prop} {c : Bool} (h : c = false) (k : B) : if c = true then A else B := by rw [if_neg (by rw [h]; decide)]; exact k
theorem r_ite {A B p : Prop} [Decidable p] (h1 : p → A) (h2 : ¬ p → B) : if decide p = true then A else B := by
  by_cases h : p
  · rw [if_pos (decide_eq_true h)]; exact h1 h
  · rw [if_neg (by rw [decide_eq_false h]; decide)]; exact h2 h
theorem r_iteN {A B p : Prop} [Decidable p] (h1 : ¬ p → A) (h2 : p → B) : if (!decide p) = true then A else B := by
  by_cases h : p
  · rw [if_neg (by rw [decide_eq_true h]; decide)]; exact h2 h
  · rw [if_pos (by rw [decide_eq_false h]; decide)]; exact h1 h
theorem r_bool {A B : Prop} {c : Bool} (h1 : c = true → A) (h2 : c = false → B) : if c = true then A else B := by
  cases c with
  | true => rw [if_pos rfl]; exact h1 rfl
  | false => rw [if_neg (by decide)]; exact h2 rfl
theorem r_szle {n : Nat} {A : Prop} (h : n ≤ 100) (k : A) : n ≤ sizeLine ∧ A := ⟨Nat.le_trans h (by rw [sizeLine_eq]; decide), k⟩
theorem r_tylist {A : Prop} (h : H a = some (.lst xs)) (k : A) : tyV K "list" (.ref a) H ∧ A := ⟨ty_list h, k⟩
end
/-! ### loops -/
section
variable {K : PySem.W.Frag} {σ : L2.St} {H : Hp} {Q : VK} {D : Ends} {te ta tl : TE} {ts : TA} {tt tc : TT} {tb : TS} {wi : TI} {g : TG} {a b : Addr} {xs ys : List V} {i j : Int} {v v' : V} {J : It} {n : Nat}
def LoopOk (J : It) (g : TG) (tb : TS) (D : Ends) (σ : L2.St) (H1 : Hp) : Prop := ∃ W : Nat → Nat → L2.St → Hp → Prop, (∃ m, W 0 m σ H1) ∧ ∀ i m σ H, W i m σ H →
  (J.stop i H ∧ D.nx σ H) ∨ (J.go i H ∧ ∃ N : L2.St → Hp → Prop, (∀ σ' H', N σ' H' → ∃ m', m' < m ∧ W (i + 1) m' σ' H') ∧ ∀ x H', J.yld i H x H' → g x σ H' fun σ2 H2 => tb { D with nx := N, ct := N, bk := D.nx } σ2 H2)
theorem r_for (k : wi σ H fun J H1 => LoopOk J g tb D σ H1) : tFor wi g tb D σ H := k
theorem r_iTup {R : It → Hp → Prop} (k : tl σ H fun x H1 => ∃ a, x = .ref a ∧ (∃ xs, SqT K H1 a xs) ∧ R (Itt K a) H1) : iTup K tl σ H R := k
theorem r_iList {R : It → Hp → Prop} (k : tl σ H fun x H1 => ∃ a, x = .ref a ∧ (∃ xs, SqL K H1 a xs) ∧ R (Itl K a) H1) : iList K tl σ H R := k
theorem r_iRng1 {R : It → Hp → Prop} (k : ts σ H fun vs H1 => ∃ j : Int, vs = [.int j] ∧ -(2 ^ 62) ≤ j ∧ j < 2 ^ 62 ∧ R (Itr 0 j.toNat) H1) : iRng1 ts σ H R := k
theorem r_iRng2 {R : It → Hp → Prop} (k : ts σ H fun vs H1 => ∃ i j : Int, vs = [.int i, .int j] ∧ (-(2 ^ 62) ≤ i ∧ i < 2 ^ 62 ∧ -(2 ^ 62) ≤ j ∧ j < 2 ^ 62) ∧ R (Itr i (j - i).toNat) H1) : iRng2 ts σ H R := k
theorem r_iStr {R : It → Hp → Prop} (k : te σ H fun v H1 => ∃ x, v = .str x ∧ R (Its x) H1) : iStr te σ H R := k
theorem r_tupAt {R : Addr → Prop} (h : SqT K H a xs) (k : R a) : ∃ a', V.ref a = .ref a' ∧ (∃ xs, SqT K H a' xs) ∧ R a' := ⟨a, rfl, ⟨xs, h⟩, k⟩
theorem r_listAt {R : Addr → Prop} (h : SqL K H a xs) (k : R a) : ∃ a', V.ref a = .ref a' ∧ (∃ xs, SqL K H a' xs) ∧ R a' := ⟨a, rfl, ⟨xs, h⟩, k⟩
theorem r_rng1At {R : Int → Prop} (h : -(2 ^ 62) ≤ j ∧ j < 2 ^ 62) (k : R j) : ∃ j' : Int, [V.int j] = [.int j'] ∧ -(2 ^ 62) ≤ j' ∧ j' < 2 ^ 62 ∧ R j' := ⟨j, rfl, h.1, h.2, k⟩
theorem r_rng2At {R : Int → Int → Prop} (h : -(2 ^ 62) ≤ i ∧ i < 2 ^ 62 ∧ -(2 ^ 62) ≤ j ∧ j < 2 ^ 62) (k : R i j) : ∃ i' j' : Int, [V.int i, V.int j] = [.int i', .int j'] ∧ (-(2 ^ 62) ≤ i' ∧ i' < 2 ^ 62 ∧ -(2 ^ 62) ≤ j' ∧ j' < 2 ^ 62) ∧ R i' j' := ⟨i, j, rfl, h, k⟩
theorem r_strAt {R : Str → Prop} {z : Str} (k : R z) : ∃ x, V.str z = .str x ∧ R x := ⟨z, rfl, k⟩
theorem l_tup (Pv : Nat → L2.St → Hp → Prop) (h0 : Pv 0 σ H) (hl : ∀ i σ H, i ≤ xs.length → Pv i σ H → SqT K H a xs)
    (hs : ∀ i x σ H, xs[i]? = some x → Pv i σ H → tb { D with nx := Pv (i + 1), ct := Pv (i + 1), bk := D.nx } (σ.set n (some x)) H) (hd : ∀ σ H, Pv xs.length σ H → D.nx σ H) : LoopOk (Itt K a) (gName n) tb D σ H := for_tup Pv h0 hl hs hd
theorem l_list (Pv : Nat → L2.St → Hp → Prop) (h0 : Pv 0 σ H) (hl : ∀ i σ H, i ≤ xs.length → Pv i σ H → SqL K H a xs)
    (hs : ∀ i x σ H, xs[i]? = some x → Pv i σ H → tb { D with nx := Pv (i + 1), ct := Pv (i + 1), bk := D.nx } (σ.set n (some x)) H) (hd : ∀ σ H, Pv xs.length σ H → D.nx σ H) : LoopOk (Itl K a) (gName n) tb D σ H := for_list Pv h0 hl hs hd
theorem l_range {lo : Int} {c : Nat} (Pv : Nat → L2.St → Hp → Prop) (h0 : Pv 0 σ H)
    (hs : ∀ i σ H, i < c → Pv i σ H → tb { D with nx := Pv (i + 1), ct := Pv (i + 1), bk := D.nx } (σ.set n (some (.int (lo + i)))) H) (hd : ∀ σ H, Pv c σ H → D.nx σ H) : LoopOk (Itr lo c) (gName n) tb D σ H := for_range Pv h0 hs hd
theorem l_str {z : Str} (Pv : Nat → L2.St → Hp → Prop) (h0 : Pv 0 σ H)
    (hs : ∀ i c σ H, z.cps.toList[i]? = some c → Pv i σ H → tb { D with nx := Pv (i + 1), ct := Pv (i + 1), bk := D.nx } (σ.set n (some (.str ⟨#[c]⟩))) H) (hd : ∀ σ H, Pv z.cps.toList.length σ H → D.nx σ H) : LoopOk (Its z) (gName n) tb D σ H := by
  refine ⟨fun i m σ H => m = z.cps.size - i ∧ i ≤ z.cps.size ∧ Pv i σ H, ⟨z.cps.size, by simp, Nat.zero_le _, h0⟩, ?_⟩
  rintro i m σ H ⟨rfl, hi, p⟩
  by_cases hlt : i < z.cps.size
  · refine .inr ⟨hlt, Pv (i + 1), fun σ' H' p' => ⟨z.cps.size - (i + 1), by omega, rfl, hlt, p'⟩, fun x H' y => ?_⟩
    obtain ⟨e, c, ec, ex⟩ := y
    subst e ex
    exact hs i c σ _ (by simpa using ec) p
  · have e : i = z.cps.size := by omega
    subst e
    exact .inl ⟨Nat.le_refl _, hd σ H (by simpa using p)⟩
/-- a while: W by a measure -/
theorem r_while (W : Nat → L2.St → Hp → Prop) (m0 : Nat) (h0 : W m0 σ H)
    (hs : ∀ m σ H, W m σ H → tc σ H fun b H1 => if b = true then ∃ N : L2.St → Hp → Prop, (∀ σ' H', N σ' H' → ∃ m', m' < m ∧ W m' σ' H') ∧ tb { D with nx := N, ct := N, bk := D.nx } σ H1 else D.nx σ H1) : tWhile tc tb D σ H := ⟨W, ⟨m0, h0⟩, hs⟩
theorem r_whileIn {W : Nat → L2.St → Hp → Prop} {m : Nat} (k : tb { D with nx := fun σ' H' => ∃ m', m' < m ∧ W m' σ' H', ct := fun σ' H' => ∃ m', m' < m ∧ W m' σ' H', bk := D.nx } σ H) :
    ∃ N : L2.St → Hp → Prop, (∀ σ' H', N σ' H' → ∃ m', m' < m ∧ W m' σ' H') ∧ tb { D with nx := N, ct := N, bk := D.nx } σ H := ⟨_, fun _ _ h => h, k⟩
/-- comprehensions -/
def CompOk (J : It) (g : TG) (tt : TT) (te : TE) (vs : List Nat) (σ : L2.St) (H1 : Hp) (Q : VK) : Prop := ∀ D, H1 D = none → ∃ W : Nat → Nat → Hp → Prop, (∃ m, W 0 m (upd H1 D (.lst []))) ∧ ∀ i m H, W i m H →
  (J.stop i H ∧ Q (.ref D) H) ∨ (J.go i H ∧ ∃ Nx : Hp → Prop, (∀ H', Nx H' → ∃ m', m' < m ∧ W (i + 1) m' H') ∧ ∀ x H', J.yld i H x H' → g x (wipe σ vs) H' fun σ2 H2 => wipe σ2 vs = wipe σ vs ∧ tt σ2 H2 fun b H3 =>
    if b = true then te σ2 H3 fun y H4 => ∃ acc, H4 D = some (.lst acc) ∧ acc.length < sizeLine ∧ Nx (upd H4 D (.lst (acc ++ [y]))) else Nx H3)
theorem r_lc {vs : List Nat} (k : wi σ H fun J H1 => CompOk J g tt te vs σ H1 Q) : tLc wi g tt te vs σ H Q := k
/-- a comprehension: Pv by the list's address, the turn, what it holds, the heap -/
def CompNo (Pv : Addr → Nat → List V → Hp → Prop) (D : Addr) (i : Nat) (H : Hp) : Prop := ∃ acc, H D = some (.lst acc) ∧ Pv D i acc H
def CompYes (Pv : Addr → Nat → List V → Hp → Prop) (D : Addr) (i : Nat) (y : V) (H : Hp) : Prop := ∃ acc, H D = some (.lst acc) ∧ acc.length < sizeLine ∧ CompNo Pv D i (upd H D (.lst (acc ++ [y])))
section
variable {Pv : Addr → Nat → List V → Hp → Prop} {A : Addr} {acc : List V} {i : Nat} {y : V}
theorem compNo (h : H A = some (.lst acc)) (k : Pv A i acc H) : CompNo Pv A i H := ⟨acc, h, k⟩
theorem compYes (h : H A = some (.lst acc)) (hl : acc.length < sizeLine) (k : Pv A i (acc ++ [y]) (upd H A (.lst (acc ++ [y])))) : CompYes Pv A i y H := ⟨acc, h, hl, acc ++ [y], upd_same, k⟩
end
theorem c_list {vs : List Nat} (Pv : Addr → Nat → List V → Hp → Prop) (h0 : ∀ A, H A = none → Pv A 0 [] (upd H A (.lst []))) (hl : ∀ A i acc H, Pv A i acc H → SqL K H a xs)
    (hs : ∀ A i x acc H, xs[i]? = some x → H A = some (.lst acc) → Pv A i acc H → wipe ((wipe σ vs).set n (some x)) vs = wipe σ vs ∧ tt ((wipe σ vs).set n (some x)) H fun b H3 => if b = true then te ((wipe σ vs).set n (some x)) H3 fun y H4 => CompYes Pv A (i + 1) y H4 else CompNo Pv A (i + 1) H3)
    (hd : ∀ A acc H, H A = some (.lst acc) → Pv A xs.length acc H → Q (.ref A) H) : CompOk (Itl K a) (gName n) tt te vs σ H Q := fun A hA =>
  lc_list (CompNo Pv A) ⟨[], upd_same, h0 A hA⟩ (fun i H _ ⟨acc, _, p⟩ => hl A i acc H p) (fun i x H hx ⟨acc, e, p⟩ => hs A i x acc H hx e p) fun H ⟨acc, e, p⟩ => hd A acc H e p
theorem c_tup {vs : List Nat} (Pv : Addr → Nat → List V → Hp → Prop) (h0 : ∀ A, H A = none → Pv A 0 [] (upd H A (.lst []))) (hl : ∀ A i acc H, Pv A i acc H → SqT K H a xs)
    (hs : ∀ A i x acc H, xs[i]? = some x → H A = some (.lst acc) → Pv A i acc H → wipe ((wipe σ vs).set n (some x)) vs = wipe σ vs ∧ tt ((wipe σ vs).set n (some x)) H fun b H3 => if b = true then te ((wipe σ vs).set n (some x)) H3 fun y H4 => CompYes Pv A (i + 1) y H4 else CompNo Pv A (i + 1) H3)
    (hd : ∀ A acc H, H A = some (.lst acc) → Pv A xs.length acc H → Q (.ref A) H) : CompOk (Itt K a) (gName n) tt te vs σ H Q := fun A hA =>
  lc_tup (CompNo Pv A) ⟨[], upd_same, h0 A hA⟩ (fun i H _ ⟨acc, _, p⟩ => hl A i acc H p) (fun i x H hx ⟨acc, e, p⟩ => hs A i x acc H hx e p) fun H ⟨acc, e, p⟩ => hd A acc H e p
theorem c_range {vs : List Nat} {lo : Int} {c : Nat} (Pv : Addr → Nat → List V → Hp → Prop) (h0 : ∀ A, H A = none → Pv A 0 [] (upd H A (.lst [])))
    (hs : ∀ A i acc H, i < c → H A = some (.lst acc) → Pv A i acc H → wipe ((wipe σ vs).set n (some (.int (lo + i)))) vs = wipe σ vs ∧ tt ((wipe σ vs).set n (some (.int (lo + i)))) H fun b H3 => if b = true then te ((wipe σ vs).set n (some (.int (lo + i)))) H3 fun y H4 => CompYes Pv A (i + 1) y H4 else CompNo Pv A (i + 1) H3)
    (hd : ∀ A acc H, H A = some (.lst acc) → Pv A c acc H → Q (.ref A) H) : CompOk (Itr lo c) (gName n) tt te vs σ H Q := fun A hA =>
  lc_range (CompNo Pv A) ⟨[], upd_same, h0 A hA⟩ (fun i H hi ⟨acc, e, p⟩ => hs A i acc H hi e p) fun H ⟨acc, e, p⟩ => hd A acc H e p
theorem c_str {vs : List Nat} {z : Str} (Pv : Addr → Nat → List V → Hp → Prop) (h0 : ∀ A, H A = none → Pv A 0 [] (upd H A (.lst [])))
    (hs : ∀ A i c acc H, z.cps.toList[i]? = some c → H A = some (.lst acc) → Pv A i acc H → wipe ((wipe σ vs).set n (some (.str ⟨#[c]⟩))) vs = wipe σ vs ∧ tt ((wipe σ vs).set n (some (.str ⟨#[c]⟩))) H fun b H3 => if b = true then te ((wipe σ vs).set n (some (.str ⟨#[c]⟩))) H3 fun y H4 => CompYes Pv A (i + 1) y H4 else CompNo Pv A (i + 1) H3)
    (hd : ∀ A acc H, H A = some (.lst acc) → Pv A z.cps.toList.length acc H → Q (.ref A) H) : CompOk (Its z) (gName n) tt te vs σ H Q := fun A hA => by
  refine ⟨fun i m H => m = z.cps.size - i ∧ i ≤ z.cps.size ∧ CompNo Pv A i H, ⟨z.cps.size, by simp, Nat.zero_le _, [], upd_same, h0 A hA⟩, ?_⟩
  rintro i m H ⟨rfl, hi, acc, e, p⟩
  by_cases hlt : i < z.cps.size
  · refine .inr ⟨hlt, CompNo Pv A (i + 1), fun H' p' => ⟨z.cps.size - (i + 1), by omega, rfl, hlt, p'⟩, fun x H' y => ?_⟩
    obtain ⟨e', c, ec, ex⟩ := y
    subst e' ex
    exact hs A i c acc _ (by simpa using ec) e p
  · have ei : i = z.cps.size := by omega
    subst ei
    exact .inl ⟨Nat.le_refl _, hd A acc H e (by simpa using p)⟩
theorem r_yes {Q : Bool → Hp → Prop} (k : Q true H) : tYes σ H Q := k
end
/-! ### data -/
theorem dp_ints {K : PySem.W.Frag} {H : Hp} : ∀ ns : List Int, DpAll K H (ns.map V.int) (ns.map PyData.int)
  | [] => .nil
  | n :: ns => .cons (.int n) (dp_ints ns)
theorem can_ints : ∀ ns : List Int, PyData.canLayAll0 (ns.map PyData.int) = true
  | [] => rfl
  | n :: ns => by
    show (true && PyData.canLayAll0 (ns.map PyData.int)) = true
    rw [can_ints ns]; rfl
theorem depth_ints : ∀ ns : List Int, PyData.depthAll (ns.map PyData.int) ≤ 1
  | [] => by decide
  | n :: ns => by
    have := depth_ints ns
    show max (PyData.depth (.int n)) (PyData.depthAll (ns.map PyData.int)) ≤ 1
    exact Nat.max_le.mpr ⟨Nat.zero_le _, this⟩
theorem shaped_ints (ns : List Int) : SeqAt.shaped (.list (ns.map PyData.int)) = true := by
  unfold SeqAt.shaped
  rw [show PyData.canLay0 (.list (ns.map PyData.int)) = PyData.canLayAll0 (ns.map PyData.int) from rfl, can_ints]
  have := depth_ints ns
  show (true && decide (PyData.depthAll (ns.map PyData.int) + 1 ≤ 64)) = true
  rw [decide_eq_true (by omega)]; rfl
theorem eqv_ints_nil (ns : List Int) : PyData.eqv (.list (ns.map PyData.int)) (.list []) = ns.isEmpty := by
  cases ns <;> rfl
theorem nodup_le : ∀ {ks ns : List Int}, ks.Nodup → (∀ k ∈ ks, k ∈ ns) → ks.length ≤ ns.length
  | [], _, _, _ => Nat.zero_le _
  | k :: ks, ns, hn, hs => by
    obtain ⟨h1, h2⟩ := List.nodup_cons.mp hn
    have hk := hs k List.mem_cons_self
    have h3 := nodup_le (ns := ns.erase k) h2 fun x hx => (List.mem_erase_of_ne (fun e => h1 (by rw [← e]; exact hx))).mpr (hs x (List.mem_cons_of_mem _ hx))
    have h4 := List.length_erase_of_mem hk
    have h5 := List.length_pos_of_mem hk
    rw [List.length_cons]
    omega
theorem nodup_iff_len : ∀ {ns ks : List Int}, ks.Nodup → (∀ k, k ∈ ks ↔ k ∈ ns) → (ks.length = ns.length ↔ ns.Nodup)
  | ns, ks, hk, hm => by
    constructor
    · intro h
      by_cases hn : ns.Nodup
      · exact hn
      · exfalso
        have : ∃ x, x ∈ ns ∧ x ∈ ns.erase x := by
          clear hm h
          induction ns with
          | nil => exact absurd List.nodup_nil hn
          | cons a r ih =>
            by_cases ha : a ∈ r
            · exact ⟨a, List.mem_cons_self, by rw [List.erase_cons_head]; exact ha⟩
            · have hr : ¬ r.Nodup := fun e => hn (List.nodup_cons.mpr ⟨ha, e⟩)
              obtain ⟨x, h1, h2⟩ := ih hr
              have hxa : ¬ (a == x) = true := fun e => ha (by rw [beq_iff_eq.mp e]; exact h1)
              exact ⟨x, List.mem_cons_of_mem _ h1, by rw [List.erase_cons_tail hxa]; exact List.mem_cons_of_mem _ h2⟩
        obtain ⟨x, h1, h2⟩ := this
        have h3 := nodup_le (ns := ns.erase x) hk fun y hy => by
          by_cases e : y = x
          · rw [e]; exact h2
          · exact (List.mem_erase_of_ne e).mpr ((hm y).mp hy)
        have h4 := List.length_erase_of_mem h1
        have h5 := List.length_pos_of_mem h1
        omega
    · intro h
      have h1 := nodup_le hk fun k e => (hm k).mp e
      have h2 := nodup_le h fun k e => (hm k).mpr e
      omega
theorem tyT_of {K : PySem.W.Frag} {H : Hp} {a : Addr} {xs : List V} (h : SqT K H a xs) : TyX K H (.ref a) (.type "tuple") := by
  rcases h with (h | ⟨o, h⟩) | ⟨o, _, _, h1, h2, _⟩
  · exact .base (.tup h)
  · exact .fTuple h
  · exact .kTuple h1 h2
theorem map_get {f : Int → V} {ns : List Int} {i : Nat} {x : V} (h : (ns.map f)[i]? = some x) : ∃ k, x = f k ∧ ns[i]? = some k := by
  rw [List.getElem?_map] at h
  cases e : ns[i]? with
  | none => rw [e] at h; cases h
  | some k => rw [e] at h; cases h; exact ⟨k, rfl, rfl⟩
theorem shaped_tupI (ns : List Int) : SeqAt.shaped (.tuple (ns.map PyData.int)) = true := shaped_ints ns
theorem eqv_tupI_nil (ns : List Int) : PyData.eqv (.tuple (ns.map PyData.int)) (.tuple []) = ns.isEmpty := by
  cases ns <;> rfl
section
variable {K : PySem.W.Frag} {σ : L2.St} {H : Hp} {Q : VK} {te : TE} {a b : Addr} {ns ms : List Int}
/-- t == () -/
theorem r_eqTnil (ha : SqT K H a (ns.map V.int)) (hb : SqT K H b []) (k : Q (.bl ns.isEmpty) H) : uEq K (.ref a) (.ref b) H Q :=
  r_eqD (.tup ha (dp_ints ns)) (.tup hb .nil) (shaped_tupI ns) rfl (by rw [eqv_tupI_nil]; exact k)
theorem eqv_intsL : ∀ ns ms : List Int, PyData.eqvAll (ns.map PyData.int) (ms.map PyData.int) = decide (ns = ms)
  | [], [] => by simp [PyData.eqvAll]
  | [], m :: ms => by simp [PyData.eqvAll]
  | n :: ns, [] => by simp [PyData.eqvAll]
  | n :: ns, m :: ms => by
    show ((n == m) && PyData.eqvAll (ns.map PyData.int) (ms.map PyData.int)) = _
    rw [eqv_intsL ns ms]
    by_cases e : n = m
    · subst e; simp
    · simp [e]
theorem r_eqTT (ha : SqT K H a (ns.map V.int)) (hb : SqT K H b (ms.map V.int)) (k : Q (.bl (decide (ns = ms))) H) : uEq K (.ref a) (.ref b) H Q :=
  r_eqD (.tup ha (dp_ints ns)) (.tup hb (dp_ints ms)) (shaped_tupI ns) (shaped_tupI ms) (by
    show Q (.bl (PyData.eqvAll (ns.map PyData.int) (ms.map PyData.int))) H
    rw [eqv_intsL]; exact k)
theorem r_neTT (ha : SqT K H a (ns.map V.int)) (hb : SqT K H b (ms.map V.int)) (k : Q (.bl (!decide (ns = ms))) H) : uNe K (.ref a) (.ref b) H Q :=
  r_neD (.tup ha (dp_ints ns)) (.tup hb (dp_ints ms)) (shaped_tupI ns) (shaped_tupI ms) (by
    show Q (.bl (!PyData.eqvAll (ns.map PyData.int) (ms.map PyData.int))) H
    rw [eqv_intsL]; exact k)
theorem r_js {ts : List TE} {acc : Str} {Q : Str → Hp → Prop} (k : te σ H fun x H1 => ∃ y : Str, x = .str y ∧ (acc ++ y).length ≤ sizeLine ∧ tJs ts (acc ++ y) σ H1 Q) : tJs (te :: ts) acc σ H Q := k
theorem r_js0 {acc : Str} {Q : Str → Hp → Prop} (k : Q acc H) : tJs [] acc σ H Q := k
theorem r_exS {Q : Str → Prop} {z : Str} (k : Q z) : ∃ y, V.str z = .str y ∧ Q y := ⟨z, rfl, k⟩
theorem r_fmt (k : te σ H fun x H1 => (∃ y : Str, x = .str y ∧ y.length ≤ sizeLine ∧ Q (.str y) H1) ∨ ∃ i : Int, x = .int i ∧ i.natAbs.log2 < 1920 ∧ Q (.str (toString i)) H1) : tFmt te σ H Q := k
theorem r_fmtI {A : Str → Prop} {B : Int → Prop} {i : Int} (k : B i) : (∃ y : Str, V.int i = .str y ∧ A y) ∨ ∃ j : Int, V.int i = .int j ∧ B j := .inr ⟨i, rfl, k⟩
theorem r_fmtS {A : Str → Prop} {B : Int → Prop} {z : Str} (k : A z) : (∃ y : Str, V.str z = .str y ∧ A y) ∨ ∃ j : Int, V.str z = .int j ∧ B j := .inl ⟨z, rfl, k⟩
end
section
variable {P : Program} {w : World} {K : PySem.W.Frag} {mg : Str → Option Value} {base : Heap} {CX : CXT} {sp : Sp}
/-- where nothing is promised -/
theorem Fd.zero {x : Str} {st : Stmt} {ps : List Str} (h : Fd K mg x st ps) (no : ∀ vs H Q E, ¬ sp vs H Q E) : Df P w K mg base CX x ps 0 sp := h.df fun _ _ _ => ⟨fun _ _ _ _ h => (no _ _ _ _ h).elim, fun _ _ _ _ _ _ _ _ _ _ _ _ _ h => (no _ _ _ _ h).elim⟩
theorem Fm.zero {C : Addr} {m qual : Str} {st : Stmt} {ps : List Str} (cl : Cls K C) (h : Fm K C m qual st ps) (no : ∀ vs H Q E, ¬ sp vs H Q E) : Dm P w K mg base CX C m ps 0 sp := h.dm cl fun _ _ _ => ⟨fun _ _ _ _ h => (no _ _ _ _ h).elim, fun _ _ _ _ _ _ _ _ _ _ _ _ _ h => (no _ _ _ _ h).elim⟩
end
theorem cut_one (x : V) (xs : List V) : cutV (x :: xs) (some 1) none = xs := by
  unfold cutV
  rw [show HT.sIx (x :: xs).length 0 (some 1) = min 1 (x :: xs).length from HT.sIx_nat (x :: xs).length 0 1, HT.sIx_none, Nat.min_eq_left (by simp)]
  simp
theorem at_zero (x : V) (xs : List V) : atI (x :: xs) 0 = some x := atI_nat (j := 0) rfl
theorem at_zeroN (x : Nat) (xs : List Nat) : atI (x :: xs) 0 = some x := by
  unfold atI ixN
  simp
theorem small_log {i : Int} (h : i.natAbs < 2 ^ 200) : i.natAbs.log2 < 1920 := Nat.lt_of_lt_of_le (PySem.Flt.log2_lt_of (by decide) h) (by decide)
section
variable {K : PySem.W.Frag} {σ : L2.St} {H : Hp} {Q : VK} {D : Ends} {te ta : TE} {a C dx : Addr} {fs : List (Str × V)} {v : V}
theorem r_fldAt {f : Str} {R : V → Prop} (h : H a = some (.ins C dx fs)) (c : Cls K C) (n : NoAttr K C f) (hv : fs.lookup f = some v) (k : R v) :
    ∃ a' C dx fs v', V.ref a = .ref a' ∧ H a' = some (.ins C dx fs) ∧ Cls K C ∧ NoAttr K C f ∧ fs.lookup f = some v' ∧ R v' := ⟨a, C, dx, fs, v, rfl, h, c, n, hv, k⟩
theorem r_augAt {f : Str} {R : Addr → Addr → V → Prop} (h : H a = some (.ins C dx fs)) (c : Cls K C) (n : NoAttr K C f) (hv : fs.lookup f = some v) (k : R a C v) :
    ∃ a' C' dx fs v', V.ref a = .ref a' ∧ H a' = some (.ins C' dx fs) ∧ Cls K C' ∧ NoAttr K C' f ∧ fs.lookup f = some v' ∧ R a' C' v' := ⟨a, C, dx, fs, v, rfl, h, c, n, hv, k⟩
theorem r_sfldAt {f : Str} {R : Addr → Addr → Addr → List (Str × V) → Prop} (h : H a = some (.ins C dx fs)) (c : Cls K C) (n : NoAttr K C f) (hl : fs.length < 1000) (k : R a C dx fs) :
    ∃ a' C dx fs, V.ref a = .ref a' ∧ H a' = some (.ins C dx fs) ∧ Cls K C ∧ NoAttr K C f ∧ fs.length < 1000 ∧ R a' C dx fs := ⟨a, C, dx, fs, rfl, h, c, n, hl, k⟩
theorem r_methAt {m : Str} {R : Addr → Prop} (h : H a = some (.ins C dx fs)) (hv : fs.lookup m = none) (k : R a) :
    ∃ a' dx fs, V.ref a = .ref a' ∧ H a' = some (.ins C dx fs) ∧ fs.lookup m = none ∧ R a' := ⟨a, dx, fs, rfl, h, hv, k⟩
theorem r_fldaug {f : Str} {rd : V → V → Hp → VK → Prop} (k : ta σ H fun x H1 => ∃ a C dx fs v, x = .ref a ∧ H1 a = some (.ins C dx fs) ∧ Cls K C ∧ NoAttr K C f ∧ fs.lookup f = some v ∧
  te σ H1 fun y H2 => rd v y H2 fun z H3 => ∃ dx' fs', H3 a = some (.ins C dx' fs') ∧ fs'.length < 1000 ∧ D.nx σ (upd H3 a (.ins C dx' (putF f z fs')))) : sFldAug K ta te rd f D σ H := k
end
end Rk

set_option Elab.async false
set_option linter.all false
set_option maxRecDepth 100000
set_option maxHeartbeats 400000
namespace Rk
open PySem PySem.Spec PyProof.Rows L2
def sOf (l : List Nat) : Str := ⟨l.toArray⟩
theorem sOf_tl (l : List Nat) : (sOf l).cps.toList = l := rfl
theorem sOf_len (l : List Nat) : (sOf l).length = l.length := by
  show l.toArray.size = l.length
  exact List.size_toArray ..
theorem sOf_app (a b : List Nat) : sOf a ++ sOf b = sOf (a ++ b) := TL.ext_tl (by show ((sOf a).cps ++ (sOf b).cps).toList = _; rw [Array.toList_append]; rfl)
theorem sOf_inj {a b : List Nat} : sOf a = sOf b ↔ a = b := ⟨fun h => by rw [← sOf_tl a, h]; rfl, fun h => by rw [h]⟩
theorem sOf_of (x : Str) : x = sOf x.cps.toList := TL.ext_tl rfl
/-- the signs of an int -/
def numC (k : Int) : List Nat := if k < 0 then 45 :: TL.numL k.natAbs else TL.numL k.natAbs
theorem tl_of (s : String) : (Str.ofString s).cps.toList = s.toList.map Char.toNat := cpsOfBytes_string s
theorem numC_str (k : Int) : Str.ofString (toString k) = sOf (numC k) := by
  refine TL.ext_tl ?_
  show (Str.ofString (toString k)).cps.toList = numC k
  unfold numC
  cases k with
  | ofNat n => rw [if_neg (show ¬ (Int.ofNat n) < 0 from Int.not_lt.mpr (Int.natCast_nonneg n))]; exact TL.tl_num n
  | negSucc n =>
    rw [if_pos (Int.negSucc_lt_zero n), tl_of]
    have h := TL.tl_num (n + 1)
    have h2 : (Str.ofString (toString ((n + 1 : Nat) : Int))).cps.toList = TL.numL (n + 1) := h
    rw [tl_of] at h2
    have e : toString (Int.negSucc n) = "-" ++ toString ((n + 1 : Nat) : Int) := rfl
    rw [e, String.toList_append, List.map_append, h2]
    rfl
theorem cutS_nat (l : List Nat) (i j : Nat) : cutS (sOf l) (some (i : Int)) (some (j : Int)) = sOf ((l.drop i).take (j - i)) := by
  unfold cutS
  rw [sOf_len, HT.sIx_nat, HT.sIx_nat]
  refine congrArg sOf ?_
  rw [sOf_tl]
  by_cases h : i ≤ l.length
  · rw [Nat.min_eq_left h]
    by_cases h2 : j ≤ l.length
    · rw [Nat.min_eq_left h2]
    · rw [Nat.min_eq_right (by omega), List.take_of_length_le (by rw [List.length_drop]; omega), List.take_of_length_le (by rw [List.length_drop]; omega)]
  · rw [Nat.min_eq_right (show l.length ≤ i by omega), List.drop_length, List.drop_eq_nil_of_le (show l.length ≤ i by omega), List.take_nil, List.take_nil]
theorem cutS_from (l : List Nat) (i : Nat) : cutS (sOf l) (some (i : Int)) none = sOf (l.drop i) := by
  unfold cutS
  rw [sOf_len, HT.sIx_nat, HT.sIx_none]
  refine congrArg sOf ?_
  rw [sOf_tl]
  by_cases h : i ≤ l.length
  · rw [Nat.min_eq_left h, List.take_of_length_le (by rw [List.length_drop]; omega)]
  · rw [Nat.min_eq_right (by omega), List.drop_length, List.drop_eq_nil_of_le (by omega)]
    simp
theorem cutS_to (l : List Nat) (j : Nat) : cutS (sOf l) none (some (j : Int)) = sOf (l.take j) := by
  unfold cutS
  rw [sOf_len, HT.sIx_none, HT.sIx_nat]
  refine congrArg sOf ?_
  rw [sOf_tl, List.drop_zero, Nat.sub_zero]
  by_cases h2 : j ≤ l.length
  · rw [Nat.min_eq_left h2]
  · rw [Nat.min_eq_right (by omega), List.take_of_length_le (by omega), List.take_of_length_le (by omega)]
/-! numbers read -/
def isDig (c : Nat) : Bool := decide (48 ≤ c) && decide (c ≤ 57)
def parseNum (cs : List Nat) : Option Int :=
  if (decide (1 ≤ cs.length) && decide (cs.length ≤ 31) && cs.all isDig) = true then (if cs = [48] ∨ cs.head? ≠ some 48 then some ((NumText.digitsVal cs : Nat) : Int) else none) else none
def parseKey : List Nat → Option Int
  | 45 :: r => match parseNum r with
    | some n => if n = 0 then none else some (-n)
    | none => none
  | cs => parseNum cs
theorem numL_all (n : Nat) : (TL.numL n).all isDig = true := by
  refine List.all_eq_true.mpr fun c hc => ?_
  have := TL.numL_digits n c hc
  unfold isDig
  rw [decide_eq_true this.1, decide_eq_true this.2]; rfl
theorem numL_head : ∀ n : Nat, TL.numL n = [48] ∨ (TL.numL n).head? ≠ some 48 := by
  intro n
  induction n using Nat.strongRecOn with
  | ind n ih =>
    by_cases h : n < 10
    · rw [TL.numL_lt h]
      by_cases h0 : n = 0
      · left; subst h0; rfl
      · right; simp; omega
    · right
      rw [TL.numL_step (by omega)]
      rcases ih (n / 10) (by omega) with e | e
      · have h1 := TL.numL_val (n / 10)
        rw [e] at h1
        have h2 : NumText.digitsVal [48] = 0 := rfl
        omega
      · rw [List.head?_append]
        cases hh : (TL.numL (n / 10)).head? with
        | none => exact absurd (List.head?_eq_none_iff.mp hh) (TL.numL_ne _)
        | some c => rw [hh] at e; simpa using e
theorem parseNum_numL {n : Nat} (h : n < 10 ^ 31) : parseNum (TL.numL n) = some (n : Int) := by
  unfold parseNum
  have h1 : 1 ≤ (TL.numL n).length := List.length_pos_iff.mpr (TL.numL_ne n)
  have h2 := TL.numL_len (k := 31) (by decide) h
  rw [decide_eq_true h1, decide_eq_true h2, numL_all]; show (if TL.numL n = [48] ∨ (TL.numL n).head? ≠ some 48 then some ((NumText.digitsVal (TL.numL n) : Nat) : Int) else none) = some (n : Int); rw [if_pos (numL_head n), TL.numL_val]
theorem parseKey_numC {k : Int} (h : k.natAbs < 10 ^ 31) : parseKey (numC k) = some k := by
  unfold numC
  by_cases hk : k < 0
  · rw [if_pos hk]
    show (match parseNum (TL.numL k.natAbs) with
    | some n => if n = 0 then none else some (-n)
    | none => none) = some k
    rw [parseNum_numL h]
    show (if (k.natAbs : Int) = 0 then none else some (-(k.natAbs : Int))) = some k
    rw [if_neg (by omega)]
    congr 1
    omega
  · rw [if_neg hk]
    have h1 := parseNum_numL h
    have h2 := numL_all k.natAbs
    cases e : TL.numL k.natAbs with
    | nil => exact absurd e (TL.numL_ne _)
    | cons c r =>
      rw [e] at h1 h2
      have hc : c ≠ 45 := by
        have := (List.all_eq_true.mp h2) c List.mem_cons_self
        unfold isDig at this
        rw [Bool.and_eq_true, decide_eq_true_eq, decide_eq_true_eq] at this
        omega
      unfold parseKey
      split
      · rename_i heq
        cases heq
        exact absurd rfl hc
      · rw [h1]; congr 1; omega
theorem parse_int {cs : List Nat} {n : Int} (h : parseNum cs = some n) : PySem.intText? (sOf cs) = some n ∧ cs.length ≤ 31 := by
  unfold parseNum at h
  split at h
  · rename_i c
    rw [Bool.and_eq_true, Bool.and_eq_true, decide_eq_true_eq, decide_eq_true_eq] at c
    split at h
    · cases h
      refine ⟨?_, c.1.2⟩
      exact intText_digits (x := sOf cs) (fun d hd => by
        have := (List.all_eq_true.mp c.2) d hd
        unfold isDig at this
        rw [Bool.and_eq_true, decide_eq_true_eq, decide_eq_true_eq] at this
        exact this) (fun e => by rw [sOf_tl] at e; rw [e] at c; exact absurd c.1.1 (by decide)) (by rw [sOf_len]; omega)
    · cases h
  · cases h
/-! the text of a tree -/
namespace Tr
def ht : Tr → Nat
  | nil => 0
  | node l _ r => 1 + max l.ht r.ht
theorem ht_le : ∀ t : Tr, t.ht ≤ t.pre.length
  | nil => Nat.le_refl _
  | node l k r => by
    have h1 := ht_le l
    have h2 := ht_le r
    simp only [ht, pre, List.length_cons, List.length_append]
    omega
def isNil : Tr → Bool
  | nil => true
  | _ => false
def txtC : Tr → List Nat
  | nil => []
  | node l k r => if (l.isNil && r.isNil) = true then numC k else numC k ++ 40 :: (txtC l ++ 44 :: (txtC r ++ [41]))
theorem pre_nil {t : Tr} : t.pre = [] ↔ t = nil := by cases t <;> simp [pre]
theorem isNil_pre (t : Tr) : t.pre.isEmpty = t.isNil := by cases t <;> rfl
theorem filt {l r : Tr} {k : Int} (h1 : ∀ x ∈ l.pre, x < k) (h2 : ∀ x ∈ r.pre, k < x) : (l.pre ++ r.pre).filter (fun x => decide (x < k)) = l.pre ∧ (l.pre ++ r.pre).filter (fun x => decide (k < x)) = r.pre := by
  constructor
  · rw [List.filter_append, List.filter_eq_self.mpr fun x hx => decide_eq_true (h1 x hx), List.filter_eq_nil_iff.mpr fun x hx => by have := h2 x hx; simp; omega, List.append_nil]
  · rw [List.filter_append, List.filter_eq_nil_iff.mpr fun x hx => by have := h1 x hx; simp; omega, List.filter_eq_self.mpr fun x hx => decide_eq_true (h2 x hx), List.nil_append]
end Tr
theorem numC_len {k : Int} (h : k.natAbs < 10 ^ 31) : (numC k).length ≤ 32 := by
  have := TL.numL_len (k := 31) (by decide) h
  unfold numC
  split
  · rw [List.length_cons]; omega
  · omega
theorem Tr.txt_len : ∀ {t : Tr}, (∀ k ∈ t.pre, k.natAbs < 10 ^ 31) → (t.txtC).length ≤ 35 * t.pre.length
  | .nil, _ => Nat.le_refl _
  | .node l k r, h => by
    have h1 := Tr.txt_len (t := l) fun x hx => h x (by simp [Tr.pre, hx])
    have h2 := Tr.txt_len (t := r) fun x hx => h x (by simp [Tr.pre, hx])
    have h3 := numC_len (h k (by simp [Tr.pre]))
    unfold Tr.txtC
    simp only [Tr.pre, List.length_cons, List.length_append]
    split
    · omega
    · simp only [List.length_append, List.length_cons, List.length_nil]; omega

local macro_rules | `(tactic| mem_news) => `(tactic| first
  | assumption
  | (refine Ne.symm ?_; assumption)
  | ((with_reducible refine' Rk.ne_new ?h1 ?h2); (case h1 => assumption); (case h2 => keq_hits))
  | ((with_reducible refine' Rk.ne_new' ?h1 ?h2); (case h1 => assumption); (case h2 => keq_hits)))
local macro_rules | `(tactic| keq_hits) => `(tactic| first
  | assumption
  | (with_reducible exact L2.upd_same)
  | ((with_reducible refine' Rk.at_ne ?h1 ?h2); (case h1 => mem_news); (case h2 => keq_hits))
  | ((with_reducible refine' Rk.same_at ?h1 ?h2); (case h1 => assumption); (case h2 => keq_hits)))
local macro_rules | `(tactic| got_up) => `(tactic| first
  | assumption
  | ((with_reducible refine' Rk.sqT_at ?h1); (case h1 => keq_hits))
  | ((with_reducible refine' Rk.sqL_at ?h1); (case h1 => keq_hits))
  | ((with_reducible refine' Rk.sqT_same ?h1 ?h2); (case h1 => assumption); (case h2 => got_up))
  | ((with_reducible refine' Rk.sqL_same ?h1 ?h2); (case h1 => assumption); (case h2 => got_up))
  | ((with_reducible refine' Rk.sqT_fr ?h1 ?h2); (case h1 => assumption); (case h2 => got_up))
  | ((with_reducible refine' Rk.sqT_new ?h1 ?h2); (case h1 => assumption); (case h2 => got_up))
  | ((with_reducible refine' Rk.sqL_new ?h1 ?h2); (case h1 => assumption); (case h2 => got_up))
  | ((with_reducible refine' Rk.sqT_put ?h1 ?h2); (case h1 => keq_hits); (case h2 => got_up)))
local macro_rules | `(tactic| keq_rows) => `(tactic| first
  | (with_reducible refine Rk.r_seq ?_)
  | (with_reducible refine Rk.r_asg ?_)
  | ((with_reducible refine' Rk.r_var ?hv ?_); (case hv => exact rfl))
  | (with_reducible refine Rk.r_c ?_)
  | (with_reducible refine Rk.r_op ?_)
  | (with_reducible refine Rk.r_gName ?_)
  | (with_reducible refine Rk.r_cons ?_)
  | (with_reducible refine Rk.r_nil ?_)
  | (with_reducible refine Rk.r_cb ?_)
  | (with_reducible refine Rk.r_call ?_)
  | (with_reducible refine Rk.r_test ?_)
  | (with_reducible refine Rk.r_tB ?_)
  | (with_reducible refine Rk.r_exB ?_)
  | (with_reducible refine Rk.r_exI ?_)
  | (with_reducible refine Rk.r_ifS ?_)
  | (with_reducible refine Rk.r_ret ?_)
  | (with_reducible refine Rk.r_retN ?_)
  | (with_reducible refine Rk.r_next ?_)
  | (with_reducible refine Rk.r_drop ?_)
  | (with_reducible refine Rk.r_gSub ?_)
  | (with_reducible refine Rk.r_and ?_)
  | (with_reducible refine Rk.r_or ?_)
  | (with_reducible refine Rk.r_not ?_)
  | (with_reducible refine Rk.r_andV ?_)
  | (with_reducible refine Rk.r_orV ?_)
  | (with_reducible refine Rk.r_notV ?_)
  | (with_reducible refine Rk.r_if ?_)
  | (with_reducible refine Rk.r_chain ?_)
  | (with_reducible refine Rk.r_un ?_)
  | (with_reducible refine Rk.r_neg ?_)
  | (with_reducible refine Rk.r_addI ?_)
  | (with_reducible refine Rk.r_I0 ?_)
  | (with_reducible refine Rk.r_ltI ?_)
  | (with_reducible refine Rk.r_non ?_)
  | (with_reducible refine Rk.r_par ?_)
  | (with_reducible refine Rk.r_ex2 ?_)
  | (with_reducible refine Rk.r_max2 ?_)
  | (with_reducible refine Rk.r_min2 ?_)
  | (with_reducible refine Rk.r_intI ?_)
  | (with_reducible refine Rk.r_intB ?_)
  | (with_reducible refine Rk.r_gCons ?_)
  | (with_reducible refine Rk.r_gNil ?_)
  | (with_reducible refine Rk.r_ipI ?_)
  | ((with_reducible refine' Rk.r_aug ?hv ?_); (case hv => exact rfl))
  | (with_reducible refine Rk.r_sl ?_)
  | (with_reducible refine Rk.r_noPart ?_)
  | (with_reducible refine Rk.r_part ?_)
  | (with_reducible refine Rk.r_tup ?_)
  | (with_reducible refine Rk.r_lst ?_)
  | (with_reducible refine Rk.r_bm ?_)
  | (with_reducible refine Rk.r_bm0 ?_)
  | (with_reducible refine Rk.r_fld ?_)
  | (with_reducible refine Rk.r_sfld ?_)
  | (with_reducible refine Rk.r_meth ?_)
  | (with_reducible refine Rk.r_make ?_)
  | (with_reducible refine Rk.r_break ?_)
  | (with_reducible refine Rk.r_cont ?_)
  | ((with_reducible refine' Rk.r_eqS ?hv ?_); (case hv => exact rfl))
  | ((with_reducible refine Rk.r_neS ?hv ?_); (case hv => exact rfl))
  | ((with_reducible refine Rk.r_ifT ?hv ?_); (case hv => exact rfl))
  | ((with_reducible refine Rk.r_ifF ?hv ?_); (case hv => exact rfl))
  | ((with_reducible refine Rk.r_szle ?hv ?_); (case hv => exact Nat.le_of_ble_eq_true rfl))
  | ((with_reducible refine' Rk.r_tylist ?hv ?_); (case hv => keq_hits))
  | ((with_reducible refine' Rk.r_appL ?hv ?hl ?_); (case hv => keq_hits); (case hl => (simp only [List.length_append, List.length_map, List.length_cons, List.length_nil, List.length_reverse]; rw [sizeLine_eq]; omega)))
  | ((with_reducible refine' Rk.r_lenL ?hv ?_); (case hv => got_up))
  | ((with_reducible refine' Rk.r_lenT ?hv ?_); (case hv => got_up))
  | (with_reducible refine Rk.r_for ?_)
  | (with_reducible refine Rk.r_iTup ?_)
  | (with_reducible refine Rk.r_iList ?_)
  | (with_reducible refine Rk.r_iRng1 ?_)
  | (with_reducible refine Rk.r_iRng2 ?_)
  | (with_reducible refine Rk.r_iStr ?_)
  | ((with_reducible refine' Rk.r_tupAt ?hv ?_); (case hv => got_up))
  | ((with_reducible refine' Rk.r_listAt ?hv ?_); (case hv => got_up))
  | (with_reducible refine Rk.r_strAt ?_)
  | (with_reducible refine Rk.r_lc ?_)
  | (with_reducible refine Rk.r_yes ?_)
  | (with_reducible refine Rk.r_fldaug ?_)
  | (with_reducible refine Rk.r_js ?_)
  | (with_reducible refine Rk.r_js0 ?_)
  | (with_reducible refine Rk.r_exS ?_)
  | (with_reducible refine Rk.r_fmt ?_)
  | (with_reducible refine Rk.r_fmtI ?_)
  | (with_reducible refine Rk.r_fmtS ?_)
  | ((with_reducible refine' Rk.r_all ?hv ?_); (case hv => got_up)))
local macro_rules | `(tactic| leaf_len) => `(tactic| repeat keq_rows)

def topS (i : Nat) : Stmt := PySem.Challenge.pw_rocktrees_k56_trees_as_text.main.body.getD i (.Pass ⟨0, 0, 0, 0⟩)
abbrev s_is_int : Stmt := topS 7
theorem sc_is_int : FnScope ["value"] ["value"] (defScope s_is_int) := ⟨rfl, rfl, rfl, by decide +kernel, rfl, by decide +kernel, by decide +kernel⟩
abbrev s_in_range : Stmt := topS 8
theorem sc_in_range : FnScope ["value", "low", "high"] ["value", "low", "high"] (defScope s_in_range) := ⟨rfl, rfl, rfl, by decide +kernel, rfl, by decide +kernel, by decide +kernel⟩
abbrev s_is_key : Stmt := topS 9
theorem sc_is_key : FnScope ["value"] ["value"] (defScope s_is_key) := ⟨rfl, rfl, rfl, by decide +kernel, rfl, by decide +kernel, by decide +kernel⟩
abbrev s_is_preorder : Stmt := topS 10
theorem sc_is_preorder : FnScope ["keys", "waiting", "bound", "key"] ["keys"] (defScope s_is_preorder) := ⟨rfl, rfl, rfl, by decide +kernel, rfl, by decide +kernel, by decide +kernel⟩
abbrev s_is_tree : Stmt := topS 11
theorem sc_is_tree : FnScope ["value", "key"] ["value"] (defScope s_is_tree) := ⟨rfl, rfl, rfl, by decide +kernel, rfl, by decide +kernel, by decide +kernel⟩
abbrev s_require_tree : Stmt := topS 12
theorem sc_require_tree : FnScope ["value"] ["value"] (defScope s_require_tree) := ⟨rfl, rfl, rfl, by decide +kernel, rfl, by decide +kernel, by decide +kernel⟩
abbrev s_parse_number : Stmt := topS 17
theorem sc_parse_number : FnScope ["word", "digit"] ["word"] (defScope s_parse_number) := ⟨rfl, rfl, rfl, by decide +kernel, rfl, by decide +kernel, by decide +kernel⟩
abbrev s_parse_key : Stmt := topS 18
theorem sc_parse_key : FnScope ["word", "number"] ["word"] (defScope s_parse_key) := ⟨rfl, rfl, rfl, by decide +kernel, rfl, by decide +kernel, by decide +kernel⟩
abbrev s_text_of : Stmt := topS 19
theorem sc_text_of : FnScope ["keys", "below", "above", "key"] ["keys"] (defScope s_text_of) := ⟨rfl, rfl, rfl, by decide +kernel, rfl, by decide +kernel, by decide +kernel⟩
abbrev s_TextReader___init__ : Stmt := inClass (topS 20) 0
theorem sc_TextReader___init__ : FnScope ["self", "text"] ["self", "text"] (defScope s_TextReader___init__) := ⟨rfl, rfl, rfl, by decide +kernel, rfl, by decide +kernel, by decide +kernel⟩
abbrev s_TextReader_next_sign : Stmt := inClass (topS 20) 1
theorem sc_TextReader_next_sign : FnScope ["self"] ["self"] (defScope s_TextReader_next_sign) := ⟨rfl, rfl, rfl, by decide +kernel, rfl, by decide +kernel, by decide +kernel⟩
abbrev s_TextReader_expect : Stmt := inClass (topS 20) 2
theorem sc_TextReader_expect : FnScope ["self", "sign"] ["self", "sign"] (defScope s_TextReader_expect) := ⟨rfl, rfl, rfl, by decide +kernel, rfl, by decide +kernel, by decide +kernel⟩
abbrev s_TextReader_read_key : Stmt := inClass (topS 20) 3
theorem sc_TextReader_read_key : FnScope ["self", "start", "key"] ["self"] (defScope s_TextReader_read_key) := ⟨rfl, rfl, rfl, by decide +kernel, rfl, by decide +kernel, by decide +kernel⟩
abbrev s_TextReader_read_keys : Stmt := inClass (topS 20) 4
theorem sc_TextReader_read_keys : FnScope ["self", "level", "key", "below", "above"] ["self", "level"] (defScope s_TextReader_read_keys) := ⟨rfl, rfl, rfl, by decide +kernel, rfl, by decide +kernel, by decide +kernel⟩
abbrev s_show_tree : Stmt := topS 21
theorem sc_show_tree : FnScope ["tree"] ["tree"] (defScope s_show_tree) := ⟨rfl, rfl, rfl, by decide +kernel, rfl, by decide +kernel, by decide +kernel⟩
abbrev s_read_tree : Stmt := topS 22
theorem sc_read_tree : FnScope ["text", "tree"] ["text"] (defScope s_read_tree) := ⟨rfl, rfl, rfl, by decide +kernel, rfl, by decide +kernel, by decide +kernel⟩
abbrev s__law_fount : Stmt := topS 24
theorem sc__law_fount : FnScope ["_law_script", "_law_k", "_law_cell"] ["_law_script", "_law_k"] (defScope s__law_fount) := ⟨rfl, rfl, rfl, by decide +kernel, rfl, by decide +kernel, by decide +kernel⟩
abbrev s__law_sip : Stmt := topS 25
theorem sc__law_sip : FnScope ["_law_fount_here", "_law_many", "_law_found", "_law_mixed_here"] ["_law_fount_here", "_law_many"] (defScope s__law_sip) := ⟨rfl, rfl, rfl, by decide +kernel, rfl, by decide +kernel, by decide +kernel⟩
abbrev s__law_mixed : Stmt := topS 26
theorem sc__law_mixed : FnScope ["_law_fount_here", "_law_items", "_law_left", "_law_turn"] ["_law_fount_here", "_law_items"] (defScope s__law_mixed) := ⟨rfl, rfl, rfl, by decide +kernel, rfl, by decide +kernel, by decide +kernel⟩
abbrev s__law_node : Stmt := topS 27
theorem sc__law_node : FnScope ["_law_keys_here", "_law_below", "_law_above", "_law_key"] ["_law_keys_here"] (defScope s__law_node) := ⟨rfl, rfl, rfl, by decide +kernel, rfl, by decide +kernel, by decide +kernel⟩
abbrev s__law_preorder : Stmt := topS 28
theorem sc__law_preorder : FnScope ["_law_node_here"] ["_law_node_here"] (defScope s__law_preorder) := ⟨rfl, rfl, rfl, by decide +kernel, rfl, by decide +kernel, by decide +kernel⟩
abbrev s__law_leaf : Stmt := topS 29
theorem sc__law_leaf : FnScope ["_law_node_here", "_law_key"] ["_law_node_here", "_law_key"] (defScope s__law_leaf) := ⟨rfl, rfl, rfl, by decide +kernel, rfl, by decide +kernel, by decide +kernel⟩
abbrev s__law_keys : Stmt := topS 30
theorem sc__law_keys : FnScope ["_law_fount_here", "_law_count", "_law_style", "_law_shift", "_law_wide", "_law_found", "_law_at"] ["_law_fount_here", "_law_count"] (defScope s__law_keys) := ⟨rfl, rfl, rfl, by decide +kernel, rfl, by decide +kernel, by decide +kernel⟩
abbrev s__law_grown : Stmt := topS 31
theorem sc__law_grown : FnScope ["_law_fount_here", "_law_most", "_law_size", "_law_keys_here_here", "_law_way", "_law_some", "_law_node_here", "_law_key"] ["_law_fount_here", "_law_most"] (defScope s__law_grown) := ⟨rfl, rfl, rfl, by decide +kernel, rfl, by decide +kernel, by decide +kernel⟩
abbrev s__law_text : Stmt := topS 33
theorem sc__law_text : FnScope ["_law_node_here"] ["_law_node_here"] (defScope s__law_text) := ⟨rfl, rfl, rfl, by decide +kernel, rfl, by decide +kernel, by decide +kernel⟩
abbrev s__law_same : Stmt := topS 34
theorem sc__law_same : FnScope ["_law_found", "_law_due", "_law_k"] ["_law_found", "_law_due"] (defScope s__law_same) := ⟨rfl, rfl, rfl, by decide +kernel, rfl, by decide +kernel, by decide +kernel⟩
abbrev s_law : Stmt := topS 35
theorem sc_law : FnScope ["_law_script", "_law_k", "_law_fount_here", "_law_most", "_law_keys_here", "_law_due", "_law_again", "_law_node_here", "_law_key", "_law_other"] ["_law_script"] (defScope s_law) := ⟨rfl, rfl, rfl, by decide +kernel, rfl, by decide +kernel, by decide +kernel⟩
/-- what the top has made -/
structure Cs where
  none_ : Unit := ()
  TextReader : Addr
structure Txt (K : PySem.W.Frag) (mg : Str → Option Value) (cs : Cs) : Prop where
  b_all : mg "all" = none
  b_bool : mg "bool" = none
  b_int : mg "int" = none
  b_isinstance : mg "isinstance" = none
  b_len : mg "len" = none
  b_list : mg "list" = none
  b_max : mg "max" = none
  b_min : mg "min" = none
  b_range : mg "range" = none
  b_set : mg "set" = none
  b_str : mg "str" = none
  b_tuple : mg "tuple" = none
  g_MOST_KEYS : ∃ t, mg "MOST_KEYS" = some (.int 24 t)
  g_GREATEST : ∃ t, mg "GREATEST" = some (.int 1000000000000000000000000000000 t)
  g_DIGITS : ∃ t, mg "DIGITS" = some (.str "0123456789" t)
  g_MOST_DIGITS : ∃ t, mg "MOST_DIGITS" = some (.int 31 t)
  g_MOST_LEVELS : ∃ t, mg "MOST_LEVELS" = some (.int 24 t)
  d_is_int : Fd K mg "is_int" s_is_int ["value"]
  d_in_range : Fd K mg "in_range" s_in_range ["value", "low", "high"]
  d_is_key : Fd K mg "is_key" s_is_key ["value"]
  d_is_preorder : Fd K mg "is_preorder" s_is_preorder ["keys"]
  d_is_tree : Fd K mg "is_tree" s_is_tree ["value"]
  d_require_tree : Fd K mg "require_tree" s_require_tree ["value"]
  d_parse_number : Fd K mg "parse_number" s_parse_number ["word"]
  d_parse_key : Fd K mg "parse_key" s_parse_key ["word"]
  d_text_of : Fd K mg "text_of" s_text_of ["keys"]
  k_TextReader : Fk K mg cs.TextReader "TextReader" "TextReader.__init__" s_TextReader___init__ ["self", "text"]
  m_TextReader_next_sign : Fm K cs.TextReader "next_sign" "TextReader.next_sign" s_TextReader_next_sign ["self"]
  m_TextReader_expect : Fm K cs.TextReader "expect" "TextReader.expect" s_TextReader_expect ["self", "sign"]
  m_TextReader_read_key : Fm K cs.TextReader "read_key" "TextReader.read_key" s_TextReader_read_key ["self"]
  m_TextReader_read_keys : Fm K cs.TextReader "read_keys" "TextReader.read_keys" s_TextReader_read_keys ["self", "level"]
  d_show_tree : Fd K mg "show_tree" s_show_tree ["tree"]
  d_read_tree : Fd K mg "read_tree" s_read_tree ["text"]
  d__law_fount : Fd K mg "_law_fount" s__law_fount ["_law_script", "_law_k"]
  d__law_sip : Fd K mg "_law_sip" s__law_sip ["_law_fount_here", "_law_many"]
  d__law_mixed : Fd K mg "_law_mixed" s__law_mixed ["_law_fount_here", "_law_items"]
  d__law_node : Fd K mg "_law_node" s__law_node ["_law_keys_here"]
  d__law_preorder : Fd K mg "_law_preorder" s__law_preorder ["_law_node_here"]
  d__law_leaf : Fd K mg "_law_leaf" s__law_leaf ["_law_node_here", "_law_key"]
  d__law_keys : Fd K mg "_law_keys" s__law_keys ["_law_fount_here", "_law_count"]
  d__law_grown : Fd K mg "_law_grown" s__law_grown ["_law_fount_here", "_law_most"]
  d__law_text : Fd K mg "_law_text" s__law_text ["_law_node_here"]
  d__law_same : Fd K mg "_law_same" s__law_same ["_law_found", "_law_due"]
  d_law : Fd K mg "law" s_law ["_law_script"]
  cl_TextReader : Cls K cs.TextReader
  n_TextReader_spot : NoAttr K cs.TextReader "spot"
  n_TextReader_text : NoAttr K cs.TextReader "text"
section
variable {P : Program} {w : World} {K : PySem.W.Frag} {mg : Str → Option Value} {base : Heap} {cs : Cs}
def spIsInt : Sp := fun vs H Q _ => ∃ n, vs = [.int n] ∧ Q (.bl true) H
theorem ok_is_int (T : Txt K mg cs) : Df P w K mg base CX0 "is_int" ["value"] 1 spIsInt := T.d_is_int.df fun f fd F => by
  refine F.ok sc_is_int (fun vs H Q E h => ?_) (fun cdv A outer s H vs Q E hr h => ?_)
  · obtain ⟨n, rfl, _⟩ := h; rfl
  · obtain ⟨n, rfl, q⟩ := h
    refine ⟨_, (pss_one (ps_ret (pe_and (pe_callB (ku_isi (K := K) (by rfl)) (by rfl) T.b_isinstance (by decide +kernel) (pa_cons (pv 0) (pa_cons (pe_bltn (v := .ty "int") rfl T.b_int (by decide +kernel) rfl) pa_nil))) (pe_one (pe_not (pe_callB (ku_isi (K := K) (by rfl)) (by rfl) T.b_isinstance (by decide +kernel) (pa_cons (pv 0) (pa_cons (pe_bltn (v := .ty "bool") rfl T.b_bool (by decide +kernel) rfl) pa_nil)))))))), ?_⟩
    show (_ : TS) _ [some (V.int n)] H
    leaf_len
    refine r_isi (.ty "int") (.base (.int n)) (kit_ty (r := true) (by decide +kernel)) ?_
    leaf_len
    refine r_isi (.ty "bool") (.base (.int n)) (kit_ty (r := false) (by decide +kernel)) ?_
    leaf_len
    exact q
def spInRange : Sp := fun vs H Q _ => ∃ n lo hi, vs = [.int n, .int lo, .int hi] ∧ Q (.bl (decide (lo ≤ n) && decide (n ≤ hi))) H
theorem ok_in_range (T : Txt K mg cs) : Df P w K mg base CX0 "in_range" ["value", "low", "high"] 2 spInRange := T.d_in_range.df fun f fd F => by
  refine F.ok sc_in_range (fun vs H Q E h => ?_) (fun cdv A outer s H vs Q E hr h => ?_)
  · obtain ⟨n, lo, hi, rfl, _⟩ := h; rfl
  · obtain ⟨n, lo, hi, rfl, q⟩ := h
    refine ⟨_, (pss_one (ps_ret (pe_and (pe_cd (ok_is_int T) (hr.mono (by first | decide | omega)) (by rfl) (pa_cons (pv 0) pa_nil)) (pe_one (pe_chain op_le op_le (pv 1) (pv 0) (pv 2)))))), ?_⟩
    show (_ : TS) _ [some (V.int n), some (V.int lo), some (V.int hi)] H
    leaf_len
    refine ⟨n, rfl, ?_⟩
    leaf_len
    refine r_ite (fun c => ?_) (fun c => ?_)
    · leaf_len; rw [decide_eq_true c] at q; exact q
    · leaf_len; rw [decide_eq_false c] at q; exact q
/-- the keys that may stand in a tree -/
def KeyOk (n : Int) : Prop := -1000000000000000000000000000000 ≤ n ∧ n ≤ 1000000000000000000000000000000
instance (n : Int) : Decidable (KeyOk n) := by unfold KeyOk; infer_instance
def spIsKey : Sp := fun vs H Q _ => ∃ n, vs = [.int n] ∧ Q (.bl (decide (KeyOk n))) H
theorem ok_is_key (T : Txt K mg cs) : Df P w K mg base CX0 "is_key" ["value"] 3 spIsKey := T.d_is_key.df fun f fd F => by
  refine F.ok sc_is_key (fun vs H Q E h => ?_) (fun cdv A outer s H vs Q E hr h => ?_)
  · obtain ⟨n, rfl, _⟩ := h; rfl
  · obtain ⟨n, rfl, q⟩ := h
    refine ⟨_, (pss_one (ps_ret (pe_cd (ok_in_range T) (hr.mono (by first | decide | omega)) (by rfl) (pa_cons (pv 0) (pa_cons (pe_un un_neg (pe_globI T.g_GREATEST)) (pa_cons (pe_globI T.g_GREATEST) pa_nil)))))), ?_⟩
    show (_ : TS) _ [some (V.int n)] H
    leaf_len
    refine ⟨n, _, _, rfl, ?_⟩
    have e : (decide (-1000000000000000000000000000000 ≤ n) && decide (n ≤ 1000000000000000000000000000000)) = decide (KeyOk n) := by
      by_cases h : KeyOk n
      · rw [decide_eq_true h, decide_eq_true h.1, decide_eq_true h.2]; rfl
      · rw [decide_eq_false h]
        cases e1 : decide (-1000000000000000000000000000000 ≤ n) with
        | false => rfl
        | true =>
          cases e2 : decide (n ≤ 1000000000000000000000000000000) with
          | false => rfl
          | true => exact absurd ⟨of_decide_eq_true e1, of_decide_eq_true e2⟩ h
    rw [e]
    exact q
/-- what is_preorder computes: w the waiting keys (the last one first), b the bound -/
def popW (k : Int) : List Int → Option Int → List Int × Option Int
  | [], b => ([], b)
  | x :: ws, b => if x < k then popW k ws (some x) else (x :: ws, b)
def under (k : Int) : Option Int → Bool
  | none => false
  | some b => decide (k < b)
def preGo : List Int → List Int → Option Int → Bool
  | [], _, _ => true
  | k :: ks, ws, b => if under k b then false else preGo ks (k :: (popW k ws b).1) (popW k ws b).2
def optV : Option Int → V
  | none => .non
  | some n => .int n
def spIsPre (K : PySem.W.Frag) : Sp := fun vs H Q _ => ∃ a ns, vs = [.ref a] ∧ SqT K H a (ns.map V.int) ∧ ns.length ≤ 1000 ∧ ∀ H', Same H H' → Q (.bl (preGo ns [] none)) H'
theorem popW_len (k : Int) : ∀ (ws : List Int) (b : Option Int), (popW k ws b).1.length ≤ ws.length
  | [], _ => Nat.le_refl _
  | x :: ws, b => by
    unfold popW
    split
    · have := popW_len k ws (some x); simp; omega
    · exact Nat.le_refl _
theorem ok_is_preorder (T : Txt K mg cs) : Df P w K mg base CX0 "is_preorder" ["keys"] 1 (spIsPre K) := T.d_is_preorder.df fun f fd F => by
  refine F.ok sc_is_preorder (fun vs H Q E h => ?_) (fun cdv A outer s H vs Q E hr h => ?_)
  · obtain ⟨a, ns, rfl, _⟩ := h; rfl
  · obtain ⟨a, ns, rfl, hS, hl, q⟩ := h
    refine ⟨_, (pss_cons (ps_set (i := 1) sc_is_preorder.nd rfl (.inl rfl) (pe_lst pa_nil))
        (pss_cons (ps_set (i := 2) sc_is_preorder.nd rfl (.inl rfl) pe_non)
        (pss_cons (ps_for PassesOwn.never rfl (ki_tup (K := K) (by rfl) (pv 0)) (pg_name (i := 3) sc_is_preorder.nd rfl (.inl rfl))
        (pss_cons (ps_if (PW.pt (pw_and (pt_cmpR op_notN (pv 2) pe_non (nomark _)) (pw_and1 (pt_cmpR (ku_lt (K := K) (by rfl) (by exact hr.units0)) (pv 3) (pv 2) (by first | exact nomark _ | rfl)))))
        (pss_one (ps_ret pe_bl))
        pss_nil)
        (pss_cons (ps_while PassesOwn.never (PW.pt (pw_and (pt_cmpR (ku_ne (K := K) (by rfl) (by exact hr.units)) (pv 1) (pe_lst pa_nil) (by first | exact nomark _ | rfl)) (pw_and1 (pt_cmpR (ku_lt (K := K) (by rfl) (by exact hr.units0)) (pe_ix (kixu (K := K) (by rfl) (by exact hu_of hr)) (pv 1) (pe_un un_neg pe_int) (fun _ _ => rfl)) (pv 3) (by first | exact nomark _ | rfl)))))
        (pss_one (ps_set (i := 2) sc_is_preorder.nd rfl (.inl rfl) (ke_bm0 (K := K) (by rfl) PySem.F.plainAttrs_list PySem.F.slot_list_pop PySem.F.type_list_pop mt_pop (pv 1)))))
        (pss_one (ps_expr (ke_bm (K := K) (by rfl) PySem.F.plainAttrs_list PySem.F.slot_list_append PySem.F.type_list_append mt_append (pv 1) (pa_cons (pv 3) pa_nil)))))))
        (pss_one (ps_ret pe_bl))))), ?_⟩
    show (_ : TS) _ [some (V.ref a), none, none, none] H
    leaf_len
    intro l hln
    leaf_len
    refine l_tup (xs := ns.map V.int) (fun i σ H' => ∃ ws b x, σ = [some (V.ref a), some (V.ref l), some (optV b), x] ∧ Same H H' ∧ H' l = some (.lst (ws.reverse.map V.int)) ∧ ws.length ≤ i ∧ preGo ns [] none = preGo (ns.drop i) ws b)
      ⟨[], none, none, rfl, Same.new hln, upd_same, Nat.le_refl _, rfl⟩ ?_ ?_ ?_
    · rintro i σ H' hi ⟨ws, b, x, rfl, hs, hw, hwl, e⟩
      exact hs.sqT hS
    · rintro i y σ H' hy ⟨ws, b, x, rfl, hs, hw, hwl, e⟩
      obtain ⟨k, rfl, hk⟩ : ∃ k, y = V.int k ∧ ns[i]? = some k := by
        rw [List.getElem?_map] at hy
        cases e : ns[i]? with
        | none => rw [e] at hy; cases hy
        | some k => rw [e] at hy; cases hy; exact ⟨k, rfl, rfl⟩
      have hi : i < ns.length := (List.getElem?_eq_some_iff.mp hk).1
      have hd : ns.drop i = k :: ns.drop (i + 1) := by
        rw [List.drop_eq_getElem_cons hi, (List.getElem?_eq_some_iff.mp hk).2]
      rw [hd] at e
      have hnu : ∀ (c : Bool), under k b = c → (b = none → c = false) := fun c hc hb => by subst hb; exact hc.symm
      -- behind the test
      have rest : under k b = false → ∀ D : Ends, (∀ ws' b' x', ws'.length ≤ ws.length → popW k ws b = (ws', b') → ∀ H2, Same H H2 → H2 l = some (.lst ((k :: ws').reverse.map V.int)) → D.nx [some (V.ref a), some (V.ref l), some (optV b'), x'] H2) →
          tSeq (tWhile (tAnd (tTest (tOp (uNe K) (tVar 1) (tLst tNil))) (tTest (tOp (uLt K) (tOp (uIx K) (tVar 1) (tUn (rU fun i => V.int (-i)) (tC (V.int 1)))) (tVar 3)))) (tAsg (tBM0 K "list" rPop (tVar 1)) (gName 2)))
            (tDrop (tBM K "list" rAppend (tVar 1) (tCons (tVar 3) tNil))) D [some (V.ref a), some (V.ref l), some (optV b), some (V.int k)] H' := fun hu D kD => by
        leaf_len
        refine r_while (fun m σ H2 => ∃ us b2, m = us.length ∧ us.length ≤ ws.length ∧ σ = [some (V.ref a), some (V.ref l), some (optV b2), some (V.int k)] ∧ Same H H2 ∧ H2 l = some (.lst (us.reverse.map V.int)) ∧ popW k ws b = popW k us b2) ws.length ⟨ws, b, rfl, Nat.le_refl _, rfl, hs, hw, rfl⟩ ?_
        rintro m σ H2 ⟨us, b2, rfl, hul, rfl, hs2, hw2, hp⟩
        leaf_len
        intro o ho
        have hlo : l ≠ o := ne_of_none hw2 ho
        refine r_neD (d := .list (us.reverse.map PyData.int)) (e := .list []) (.lst (.inl (.inl (by rw [upd_ne hlo]; exact hw2))) (dp_ints _)) (.lst (.inl (.inl upd_same)) .nil) (shaped_ints _) rfl ?_
        leaf_len
        have e0 : PyData.eqv (.list (us.reverse.map PyData.int)) (.list []) = us.isEmpty := by
          rw [eqv_ints_nil]; simp
        rw [e0]
        cases us with
        | nil =>
          refine r_ifF rfl ?_
          have e2 : popW k ws b = ([], b2) := hp
          leaf_len
          refine kD [] b2 _ (Nat.zero_le _) e2 _ ?_ upd_same
          exact fun b3 o3 h3 => by rw [upd_ne (ne_of_none h3 hln)]; rw [upd_ne (ne_of_none (hs2 _ _ h3) ho)]; exact hs2 _ _ h3
        | cons u us =>
          refine r_ifT rfl ?_
          leaf_len
          refine r_ixL (xs := (us.reverse ++ [u]).map V.int) (.inl (.inl (by rw [upd_ne hlo, hw2, List.reverse_cons]))) (v := .int u) (by rw [List.map_append]; exact atI_last _ _) ?_
          leaf_len
          refine r_ite (fun c => ?_) (fun c => ?_)
          · refine r_whileIn ?_
            leaf_len
            refine r_pop (zs := us.reverse.map V.int) (x := .int u) (by rw [upd_ne hlo, hw2, List.reverse_cons, List.map_append]; rfl) ?_
            leaf_len
            refine ⟨us.length, Nat.lt_succ_self _, us, some u, rfl, Nat.le_of_succ_le hul, rfl, ?_, upd_same, ?_⟩
            · exact fun b3 o3 h3 => by rw [upd_ne (ne_of_none h3 hln)]; rw [upd_ne (ne_of_none (hs2 _ _ h3) ho)]; exact hs2 _ _ h3
            · rw [hp]; conv => lhs; unfold popW
              rw [if_pos c]
          · leaf_len
            have e2 : popW k ws b = (u :: us, b2) := by
              rw [hp]; conv => lhs; unfold popW
              rw [if_neg c]
            leaf_len
            refine r_appL (xs := ((u :: us).reverse).map V.int) (by rw [upd_ne hlo]; exact hw2) (by rw [sizeLine_eq, List.length_map, List.length_reverse]; omega) ?_
            refine kD (u :: us) b2 _ hul e2 _ ?_ (by rw [upd_same, List.reverse_cons (a := k), List.map_append]; rfl)
            exact fun b3 o3 h3 => by rw [upd_ne (ne_of_none h3 hln)]; rw [upd_ne (ne_of_none (hs2 _ _ h3) ho)]; exact hs2 _ _ h3
      have fin : under k b = false → ∀ ws' b' x', ws'.length ≤ ws.length → popW k ws b = (ws', b') → ∀ H2, Same H H2 → H2 l = some (.lst ((k :: ws').reverse.map V.int)) → ∃ ws2 b2 x2, [some (V.ref a), some (V.ref l), some (optV b'), x'] = [some (V.ref a), some (V.ref l), some (optV b2), x2] ∧ Same H H2 ∧ H2 l = some (.lst (ws2.reverse.map V.int)) ∧ ws2.length ≤ i + 1 ∧ preGo ns [] none = preGo (ns.drop (i + 1)) ws2 b2 := fun hu ws' b' x' h1 h2 H2 h3 h4 => by
        refine ⟨k :: ws', b', x', rfl, h3, h4, by rw [List.length_cons]; omega, ?_⟩
        rw [e]; conv => lhs; unfold preGo
        rw [hu, h2]; rfl
      leaf_len
      cases b with
      | none =>
        refine r_ifF rfl ?_
        leaf_len
        exact rest rfl _ (fin rfl)
      | some b =>
        refine r_ifT rfl ?_
        leaf_len
        refine r_ltI ?_
        leaf_len
        refine r_ite (fun c => ?_) (fun c => ?_)
        · leaf_len
          have e3 : preGo ns [] none = false := by
            rw [e]; unfold preGo under
            exact if_pos (decide_eq_true c)
          have := q H' hs
          rw [e3] at this
          exact this
        · leaf_len
          have hu : under k (some b) = false := decide_eq_false c
          exact rest hu _ (fin hu)
    · rintro σ H' ⟨ws, b, x, rfl, hs, hw, hwl, e⟩
      leaf_len
      rw [List.length_map, List.drop_length] at e
      have := q H' hs
      rw [e] at this
      exact this
end

section
variable {P : Program} {w : World} {K : PySem.W.Frag} {mg : Str → Option Value} {base : Heap} {cs : Cs}
def isTreeL (ns : List Int) : Bool := (decide (1 ≤ ns.length) && decide (ns.length ≤ 24) && ns.all fun n => decide (KeyOk n)) && (decide ns.Nodup && preGo ns [] none)
def spIsTree (K : PySem.W.Frag) : Sp := fun vs H Q _ => ∃ a ns, vs = [.ref a] ∧ SqT K H a (ns.map V.int) ∧ ns.length ≤ 1000 ∧ ∀ H', Same H H' → Q (.bl (isTreeL ns)) H'
theorem take_map_all (f : Int → Bool) (ns : List Int) : ((ns.map f).all id) = ns.all f := by
  induction ns with
  | nil => rfl
  | cons a r ih => show (f a && (r.map f).all id) = (f a && r.all f); rw [ih]
theorem ok_is_tree (T : Txt K mg cs) : Df P w K mg base CX0 "is_tree" ["value"] 5 (spIsTree K) := T.d_is_tree.df fun f fd F => by
  refine F.ok sc_is_tree (fun vs H Q E h => ?_) (fun cdv A outer s H vs Q E hr h => ?_)
  · obtain ⟨a, ns, rfl, _⟩ := h; rfl
  · obtain ⟨a, ns, rfl, hS, hl, q⟩ := h
    refine ⟨_, (pss_cons (ps_if (PW.pt (pw_or (pt_not (pt_val (pe_callB (ku_isi (K := K) (by rfl)) (by rfl) T.b_isinstance (by decide +kernel) (pa_cons (pv 0) (pa_cons (pe_bltn (v := .ty "tuple") rfl T.b_tuple (by decide +kernel) rfl) pa_nil))))) (pw_or (pt_not (pt_chain op_le op_le pe_int (pe_callB (ku_len (K := K) (w := w) (by rfl) (by rfl)) (by rfl) T.b_len (by decide +kernel) (pa_cons (pv 0) pa_nil)) (pe_globI T.g_MOST_KEYS))) (pw_or1 (pt_not (pt_val (pe_callB (ku_all (K := K) (by rfl) rfl) (by rfl) T.b_all (by decide +kernel) (pa_cons (pe_lc (own := [("key", 1)]) rfl sc_is_tree.nd (ki_tup (K := K) (by rfl) (pv 0)) (blkOk_by (N := ["value", "key"]) (sc := defScope s_is_tree) (own := [("key", 1)]) (by decide +kernel)) (fun _ _ _ _ _ => (pg_name (i := 1) sc_is_tree.nd rfl (.inl rfl))) (fun _ _ _ _ _ => pts_nil) (fun _ _ _ _ _ => (pe_cd (ok_is_key T) (hr.mono (by first | decide | omega)) (by rfl) (pa_cons (pv 1) pa_nil)))) pa_nil))))))))
        (pss_one (ps_ret pe_bl))
        pss_nil)
        (pss_one (ps_ret (pe_and (pe_cmpR (ku_eq (K := K) (by rfl) (by exact hr.units)) (pe_callB (ku_len (K := K) (w := w) (by rfl) (by rfl)) (by rfl) T.b_len (by decide +kernel) (pa_cons (pe_callTy (ku_set (K := K) (w := w) (by rfl) (by rfl) rfl) (by rfl) T.b_set (by decide +kernel) (pa_cons (pv 0) pa_nil)) pa_nil)) (pe_callB (ku_len (K := K) (w := w) (by rfl) (by rfl)) (by rfl) T.b_len (by decide +kernel) (pa_cons (pv 0) pa_nil)) (by first | exact nomark _ | rfl)) (pe_one (pe_cd (ok_is_preorder T) (hr.mono (by first | decide | omega)) (by rfl) (pa_cons (pv 0) pa_nil))))))), ?_⟩
    show (_ : TS) _ [some (V.ref a), none] H
    leaf_len
    refine r_isi (.ty "tuple") (tyT_of hS) (kit_ty (r := true) (by decide +kernel)) ?_
    leaf_len
    refine r_ite (fun c1 => ?_) (fun c1 => ?_)
    · rw [List.length_map] at c1
      leaf_len
      rw [List.length_map]
      refine r_iteN (fun c2 => ?_) (fun c2 => ?_)
      · leaf_len
        have e : isTreeL ns = false := by unfold isTreeL; rw [decide_eq_false (show ¬ ns.length ≤ 24 by omega), Bool.and_false, Bool.false_and, Bool.false_and]
        rw [← e]; exact q _ (Same.refl H)
      · leaf_len
        refine c_tup (xs := ns.map V.int) (fun D i acc H' => H D = none ∧ Same H H' ∧ acc = ((ns.take i).map fun n => V.bl (decide (KeyOk n)))) (fun D hD => ⟨hD, Same.new hD, rfl⟩) (fun D i acc H' h => h.2.1.sqT hS) ?_ ?_
        · rintro D i x acc H' hx hD ⟨h0, hs, rfl⟩
          obtain ⟨k, rfl, hk⟩ : ∃ k, x = V.int k ∧ ns[i]? = some k := by
            rw [List.getElem?_map] at hx
            cases e : ns[i]? with
            | none => rw [e] at hx; cases hx
            | some k => rw [e] at hx; cases hx; exact ⟨k, rfl, rfl⟩
          refine ⟨rfl, ?_⟩
          leaf_len
          refine ⟨k, rfl, ?_⟩
          refine compYes hD ?_ ⟨h0, ?_, ?_⟩
          · rw [List.length_map, List.length_take, sizeLine_eq]; omega
          · exact (Fr.put0 (S := []) (Fr.same hs) h0).toSame
          · rw [List.take_add_one, hk, List.map_append]; rfl
        · rintro D acc H' hD ⟨h0, hs, rfl⟩
          rw [List.length_map, List.take_length] at hD
          rw [show ((ns.map fun n => V.bl (decide (KeyOk n))) : List V) = (ns.map fun n => decide (KeyOk n)).map V.bl by rw [List.map_map]; rfl] at hD
          leaf_len
          rw [take_map_all]
          leaf_len
          refine r_bool (fun c3 => ?_) (fun c3 => ?_)
          · have c3 : (ns.all fun n => decide (KeyOk n)) = false := by simpa using c3
            leaf_len
            have e : isTreeL ns = false := by unfold isTreeL; rw [c3, Bool.and_false, Bool.false_and]
            rw [← e]; exact q _ hs
          · have c3 : (ns.all fun n => decide (KeyOk n)) = true := by simpa using c3
            leaf_len
            refine r_setTI (hs.sqT hS) (by omega) fun p n ks hp h1 h2 h3 => ?_
            leaf_len
            have hn : n ≤ ns.length := by rw [← h3]; exact nodup_le h1 fun k e => (h2 k).mp e
            refine r_lenSet upd_same (by omega) ?_
            leaf_len
            have hs2 : Same H' (upd H' p (SetO w p (fun j => decide (j ∈ ns)) n)) := Same.new hp
            rw [List.length_map]
            have hnd : (decide (V.int (n : Int) = V.int (ns.length : Int))) = decide ns.Nodup := by
              have h4 := nodup_iff_len h1 h2
              rw [h3] at h4
              by_cases e : n = ns.length
              · rw [decide_eq_true (h4.mp e), decide_eq_true (by rw [e])]
              · rw [decide_eq_false (fun z => e (h4.mpr z)), decide_eq_false (fun z => e (by have := V.int.inj z; omega))]
            rw [hnd]
            refine r_bool (fun c4 => ?_) (fun c4 => ?_)
            · leaf_len
              refine ⟨a, ns, rfl, hs2.sqT (hs.sqT hS), hl, fun H3 hs3 => ?_⟩
              have e : isTreeL ns = preGo ns [] none := by unfold isTreeL; rw [decide_eq_true (show 1 ≤ ns.length by omega), c3, c4, decide_eq_true (show ns.length ≤ 24 by omega)]; rfl
              rw [← e]
              exact q _ ((hs.trans hs2).trans hs3)
            · have e : isTreeL ns = false := by unfold isTreeL; rw [c4, Bool.false_and, Bool.and_false]
              rw [← e]; exact q _ (hs.trans hs2)
    · rw [List.length_map] at c1
      leaf_len
      have e : isTreeL ns = false := by unfold isTreeL; rw [decide_eq_false (show ¬ 1 ≤ ns.length by omega), Bool.false_and, Bool.false_and, Bool.false_and]
      rw [← e]; exact q _ (Same.refl H)
def spReqTree (K : PySem.W.Frag) : Sp := fun vs H Q _ => ∃ a ns, vs = [.ref a] ∧ SqT K H a (ns.map V.int) ∧ ns.length ≤ 1000 ∧ isTreeL ns = true ∧ ∀ H', Same H H' → Q .non H'
theorem ok_require_tree (T : Txt K mg cs) : Df P w K mg base CX0 "require_tree" ["value"] 6 (spReqTree K) := T.d_require_tree.df fun f fd F => by
  refine F.ok sc_require_tree (fun vs H Q E h => ?_) (fun cdv A outer s H vs Q E hr h => ?_)
  · obtain ⟨a, ns, rfl, _⟩ := h; rfl
  · obtain ⟨a, ns, rfl, hS, hl, ht, q⟩ := h
    refine ⟨_, (pss_one (ps_if (pt_not (pt_val (pe_cd (ok_is_tree T) (hr.mono (by first | decide | omega)) (by rfl) (pa_cons (pv 0) pa_nil))))
        (pss_one ps_never)
        pss_nil)), ?_⟩
    show (_ : TS) _ [some (V.ref a)] H
    leaf_len
    refine ⟨a, ns, rfl, hS, hl, fun H' hs => ?_⟩
    rw [ht]
    leaf_len
    exact q H' hs
end

section
variable {P : Program} {w : World} {K : PySem.W.Frag} {mg : Str → Option Value} {base : Heap} {cs : Cs}
theorem digits_in (c : Nat) : decide (c ∈ (Str.ofString "0123456789").cps.toList) = isDig c := by
  have e : (Str.ofString "0123456789").cps.toList = [48, 49, 50, 51, 52, 53, 54, 55, 56, 57] := by decide +kernel
  rw [e]
  unfold isDig
  by_cases h : 48 ≤ c ∧ c ≤ 57
  · rw [decide_eq_true h.1, decide_eq_true h.2]
    refine decide_eq_true ?_
    have : c = 48 ∨ c = 49 ∨ c = 50 ∨ c = 51 ∨ c = 52 ∨ c = 53 ∨ c = 54 ∨ c = 55 ∨ c = 56 ∨ c = 57 := by omega
    simpa using this
  · have h2 : (decide (48 ≤ c) && decide (c ≤ 57)) = false := by
      cases e1 : decide (48 ≤ c) with
      | false => rfl
      | true =>
        cases e2 : decide (c ≤ 57) with
        | false => rfl
        | true => exact absurd ⟨of_decide_eq_true e1, of_decide_eq_true e2⟩ h
    rw [h2]
    refine decide_eq_false fun m => h ?_
    simp at m
    omega
def spParseNumber : Sp := fun vs H Q _ => ∃ l, vs = [.str (sOf l)] ∧ l.length ≤ 100000 ∧ ∀ H', Same H H' → Q (optV (parseNum l)) H'
theorem ok_parse_number (T : Txt K mg cs) : Df P w K mg base CX0 "parse_number" ["word"] 1 spParseNumber := T.d_parse_number.df fun f fd F => by
  refine F.ok sc_parse_number (fun vs H Q E h => ?_) (fun cdv A outer s H vs Q E hr h => ?_)
  · obtain ⟨l, rfl, _⟩ := h; rfl
  · obtain ⟨l, rfl, hl, q⟩ := h
    refine ⟨_, (pss_cons (ps_if (PW.pt (pw_or (pt_not (pt_chain op_le op_le pe_int (pe_callB (ku_len (K := K) (w := w) (by rfl) (by rfl)) (by rfl) T.b_len (by decide +kernel) (pa_cons (pv 0) pa_nil)) (pe_globI T.g_MOST_DIGITS))) (pw_or1 (pt_not (pt_val (pe_callB (ku_all (K := K) (by rfl) rfl) (by rfl) T.b_all (by decide +kernel) (pa_cons (pe_lc (own := [("digit", 1)]) rfl sc_parse_number.nd (pi_str (pv 0)) (blkOk_by (N := ["word", "digit"]) (sc := defScope s_parse_number) (own := [("digit", 1)]) (by decide +kernel)) (fun _ _ _ _ _ => (pg_name (i := 1) sc_parse_number.nd rfl (.inl rfl))) (fun _ _ _ _ _ => pts_nil) (fun _ _ _ _ _ => (pe_cmpR (ku_in (K := K) (by rfl) (by exact hu_of hr)) (pv 1) (pe_globS T.g_DIGITS) (by first | exact nomark _ | rfl)))) pa_nil)))))))
        (pss_one (ps_ret pe_non))
        pss_nil)
        (pss_one (ps_ret (pe_ifExp (PW.pt (pw_or (pt_cmpR (ku_eq (K := K) (by rfl) (by exact hr.units)) (pv 0) pe_str (by first | exact nomark _ | rfl)) (pw_or1 (pt_cmpR (ku_ne (K := K) (by rfl) (by exact hr.units)) (pe_ix (kixu (K := K) (by rfl) (by exact hu_of hr)) (pv 0) pe_int (fun _ _ => rfl)) pe_str (by first | exact nomark _ | rfl))))) (pe_callTy cu_int (by rfl) T.b_int (by decide +kernel) (pa_cons (pv 0) pa_nil)) pe_non)))), ?_⟩
    show (_ : TS) _ [some (V.str (sOf l)), none] H
    have hz : (sOf l).length ≤ sizeLine := by rw [sOf_len, sizeLine_eq]; omega
    leaf_len
    refine r_lenS hz ?_
    leaf_len
    rw [sOf_len]
    refine r_ite (fun c1 => ?_) (fun c1 => ?_)
    · leaf_len
      refine r_iteN (fun c2 => ?_) (fun c2 => ?_)
      · leaf_len
        have e : parseNum l = none := by unfold parseNum; rw [decide_eq_false (show ¬ l.length ≤ 31 by omega), Bool.and_false, Bool.false_and]; rfl
        have := q H (Same.refl H)
        rw [e] at this; exact this
      · leaf_len
        refine c_str (fun D i acc H' => H D = none ∧ Same H H' ∧ acc = ((l.take i).map fun c => V.bl (isDig c))) (fun D hD => ⟨hD, Same.new hD, rfl⟩) ?_ ?_
        · rintro D i c acc H' hx hD ⟨h0, hs, rfl⟩
          refine ⟨rfl, ?_⟩
          leaf_len
          refine r_inS ?_
          rw [digits_in]
          refine compYes hD ?_ ⟨h0, ?_, ?_⟩
          · rw [List.length_map, List.length_take, sizeLine_eq]; omega
          · exact (Fr.put0 (S := []) (Fr.same hs) h0).toSame
          · rw [sOf_tl] at hx
            rw [List.take_add_one, hx, List.map_append]; rfl
        · rintro D acc H' hD ⟨h0, hs, rfl⟩
          rw [sOf_tl, List.take_length, show (l.map fun c => V.bl (isDig c)) = (l.map isDig).map V.bl by rw [List.map_map]; rfl] at hD
          leaf_len
          have ea : ∀ l : List Nat, (l.map isDig).all id = l.all isDig := fun l => by
            induction l with
            | nil => rfl
            | cons a r ih => show (isDig a && (r.map isDig).all id) = (isDig a && r.all isDig); rw [ih]
          rw [ea]
          refine r_bool (fun c3 => ?_) (fun c3 => ?_)
          · leaf_len
            have c3 : l.all isDig = false := by simpa using c3
            have e : parseNum l = none := by unfold parseNum; rw [c3, Bool.and_false]; rfl
            have := q H' hs
            rw [e] at this; exact this
          · have c3 : l.all isDig = true := by simpa using c3
            leaf_len
            have e0 : ("0" : Str) = sOf [48] := by decide +kernel
            have e1 : decide (V.str (sOf l) = V.str "0") = decide (l = [48]) := by
              rw [e0]
              by_cases h : l = [48]
              · rw [decide_eq_true h, decide_eq_true (by rw [h])]
              · rw [decide_eq_false h, decide_eq_false fun z => h (sOf_inj.mp (V.str.inj z))]
            rw [e1]
            have hne : l ≠ [] := fun e => by subst e; exact absurd c1 (by decide)
            obtain ⟨c, r, rfl⟩ : ∃ c r, l = c :: r := by
              cases l with
              | nil => exact absurd rfl hne
              | cons c r => exact ⟨c, r, rfl⟩
            have hpn : ∀ n : Int, parseNum (c :: r) = some n → Q (.int n) H' := fun n hn => by
              have := q H' hs
              rw [hn] at this; exact this
            have hyes : (c :: r = [48] ∨ (c :: r).head? ≠ some 48) → parseNum (c :: r) = some ((NumText.digitsVal (c :: r) : Nat) : Int) := fun h => by
              unfold parseNum
              rw [decide_eq_true (show 1 ≤ (c :: r).length by rw [List.length_cons]; omega), decide_eq_true (show (c :: r).length ≤ 31 by omega), c3]
              show (if c :: r = [48] ∨ (c :: r).head? ≠ some 48 then _ else none) = _
              rw [if_pos h]
            refine r_ite (fun c4 => ?_) (fun c4 => ?_)
            · leaf_len
              have h1 := hyes (.inl c4)
              obtain ⟨h2, h3⟩ := parse_int h1
              refine r_intS h2 (by rw [sOf_len]; omega) ?_
              exact hpn _ h1
            · leaf_len
              refine r_ixS hz (c := c) (at_zeroN c r) ?_
              leaf_len
              have e2 : decide (V.str ⟨#[c]⟩ = V.str "0") = decide (c = 48) := by
                rw [e0]
                by_cases h : c = 48
                · rw [decide_eq_true h, decide_eq_true (by rw [h]; rfl)]
                · rw [decide_eq_false h, decide_eq_false fun z => h (by
                    have := sOf_inj.mp (show sOf [c] = sOf [48] from V.str.inj z)
                    simpa using this)]
              rw [e2]
              refine r_iteN (fun c5 => ?_) (fun c5 => ?_)
              · leaf_len
                have h1 := hyes (.inr (by simpa using c5))
                obtain ⟨h2, h3⟩ := parse_int h1
                refine r_intS h2 (by rw [sOf_len]; omega) ?_
                exact hpn _ h1
              · leaf_len
                have e : parseNum (c :: r) = none := by
                  unfold parseNum
                  rw [if_neg (show ¬ (c :: r = [48] ∨ (c :: r).head? ≠ some 48) from fun h => h.elim c4 fun h => h (by rw [c5]; rfl))]
                  split <;> rfl
                have := q H' hs
                rw [e] at this; exact this
    · leaf_len
      have e : parseNum l = none := by unfold parseNum; rw [decide_eq_false (show ¬ 1 ≤ l.length by omega), Bool.false_and, Bool.false_and]; rfl
      have := q H (Same.refl H)
      rw [e] at this; exact this
theorem optV_none {o : Option Int} : decide (optV o = .non) = o.isNone := by cases o <;> rfl
theorem ok_parse_key (T : Txt K mg cs) : Df P w K mg base CX0 "parse_key" ["word"] 2 (fun vs H Q _ => ∃ l, vs = [.str (sOf l)] ∧ l.length ≤ 100000 ∧ ∀ H', Same H H' → Q (optV (parseKey l)) H') := T.d_parse_key.df fun f fd F => by
  refine F.ok sc_parse_key (fun vs H Q E h => ?_) (fun cdv A outer s H vs Q E hr h => ?_)
  · obtain ⟨l, rfl, _⟩ := h; rfl
  · obtain ⟨l, rfl, hl, q⟩ := h
    refine ⟨_, (pss_cons (ps_if (pt_cmpR (ku_ne (K := K) (by rfl) (by exact hr.units)) (pe_slice (ksu (K := K) (by rfl)) (pv 0) po_none (po_some pe_int)) pe_str (by first | exact nomark _ | rfl))
        (pss_one (ps_ret (pe_cd (ok_parse_number T) (hr.mono (by first | decide | omega)) (by rfl) (pa_cons (pv 0) pa_nil))))
        pss_nil)
        (pss_cons (ps_set (i := 1) sc_parse_key.nd rfl (.inl rfl) (pe_cd (ok_parse_number T) (hr.mono (by first | decide | omega)) (by rfl) (pa_cons (pe_slice (ksu (K := K) (by rfl)) (pv 0) (po_some pe_int) po_none) pa_nil)))
        (pss_one (ps_ret (pe_ifExp (PW.pt (pw_or (pt_cmpR op_isN (pv 1) pe_non (nomark _)) (pw_or1 (pt_cmpR (ku_eq (K := K) (by rfl) (by exact hr.units)) (pv 1) pe_int (by first | exact nomark _ | rfl))))) pe_non (pe_un un_neg (pv 1))))))), ?_⟩
    show (_ : TS) _ [some (V.str (sOf l)), none] H
    have hz : (sOf l).length ≤ sizeLine := by rw [sOf_len, sizeLine_eq]; omega
    have e0 : ("-" : Str) = sOf [45] := by decide +kernel
    leaf_len
    refine r_slS hz ?_
    rw [show ((1 : Int)) = ((1 : Nat) : Int) from rfl, cutS_to]
    leaf_len
    have e1 : decide (V.str (sOf (l.take 1)) = V.str "-") = decide (l.head? = some 45) := by
      rw [e0]
      cases l with
      | nil => rfl
      | cons c r =>
        by_cases h : c = 45
        · subst h; rfl
        · rw [decide_eq_false (show ¬ (c :: r).head? = some 45 from fun z => h (Option.some.inj z)), decide_eq_false fun z => h (by
            have := sOf_inj.mp (V.str.inj z)
            simpa using this)]
    rw [e1]
    refine r_iteN (fun c => ?_) (fun c => ?_)
    · leaf_len
      refine ⟨l, rfl, hl, fun H' hs => ?_⟩
      have e : parseKey l = parseNum l := by
        unfold parseKey
        split
        · exact absurd rfl c
        · rfl
      rw [← e]
      exact q H' hs
    · leaf_len
      refine r_slS hz ?_
      rw [cutS_from]
      leaf_len
      refine ⟨_, rfl, by rw [List.length_drop]; omega, fun H' hs => ?_⟩
      leaf_len
      obtain ⟨r, rfl⟩ : ∃ r, l = 45 :: r := by
        cases l with
        | nil => cases c
        | cons d r => cases c; exact ⟨r, rfl⟩
      rw [optV_none]
      show if (parseNum r).isNone = true then _ else _
      have q2 := q H' hs
      cases e : parseNum r with
      | none =>
        have e2 : parseKey (45 :: r) = none := by
          show (match parseNum r with
          | some n => if n = 0 then none else some (-n)
          | none => none) = none
          rw [e]
        rw [e2] at q2
        leaf_len
        exact q2
      | some n =>
        have e2 : parseKey (45 :: r) = if n = 0 then none else some (-n) := by
          show (match parseNum r with
          | some n => if n = 0 then none else some (-n)
          | none => none) = _
          rw [e]
        rw [e2] at q2
        show if false = true then _ else _
        leaf_len
        have e3 : optV (parseNum (List.drop 1 (45 :: r))) = .int n := by
          show optV (parseNum r) = _
          rw [e]; rfl
        rw [e3]
        leaf_len
        refine r_bool (fun c2 => ?_) (fun c2 => ?_)
        · leaf_len
          have hn : n = 0 := V.int.inj (of_decide_eq_true c2)
          rw [if_pos hn] at q2
          exact q2
        · leaf_len
          have hn : n ≠ 0 := fun z => of_decide_eq_false c2 (by rw [z])
          rw [if_neg hn] at q2
          exact q2
end

section
variable {P : Program} {w : World} {K : PySem.W.Frag} {mg : Str → Option Value} {base : Heap} {cs : Cs}
/-- what a tree in a law is: a search tree, at most 24 keys, in range -/
structure TOk (t : Tr) : Prop where
  bst : t.Bst
  len : t.pre.length ≤ 24
  key : ∀ k ∈ t.pre, KeyOk k
theorem TOk.abs {t : Tr} (h : TOk t) {k : Int} (hk : k ∈ t.pre) : k.natAbs < 10 ^ 31 := by
  have := h.key k hk
  unfold KeyOk at this
  omega
theorem TOk.left {l r : Tr} {k : Int} (h : TOk (.node l k r)) : TOk l := ⟨h.bst.1, by have := h.len; simp only [Tr.pre, List.length_cons, List.length_append] at this; omega, fun x hx => h.key x (by simp [Tr.pre, hx])⟩
theorem TOk.right {l r : Tr} {k : Int} (h : TOk (.node l k r)) : TOk r := ⟨h.bst.2.1, by have := h.len; simp only [Tr.pre, List.length_cons, List.length_append] at this; omega, fun x hx => h.key x (by simp [Tr.pre, hx])⟩
theorem log_key {k : Int} (h : k.natAbs < 10 ^ 31) : k.natAbs.log2 < 1920 := small_log (Nat.lt_of_lt_of_le h (by decide))
def spText (K : PySem.W.Frag) (n : Nat) : Sp := fun vs H Q _ => ∃ a t, vs = [.ref a] ∧ SqT K H a (t.pre.map V.int) ∧ TOk t ∧ t.ht < n ∧ ∀ H', Same H H' → Q (.str (sOf t.txtC)) H'
theorem take_filter {α : Type} (p : α → Bool) (l : List α) (i : Nat) {x : α} (h : l[i]? = some x) : (l.take (i + 1)).filter p = (l.take i).filter p ++ (if p x = true then [x] else []) := by
  rw [List.take_add_one, h, List.filter_append]
  cases e : p x <;> simp [e]
theorem ok_text_of_n (T : Txt K mg cs) : ∀ n : Nat, n ≤ 30 → Df P w K mg base CX0 "text_of" ["keys"] n (spText K n)
  | 0, _ => T.d_text_of.zero fun vs H Q E h => by obtain ⟨_, _, _, _, _, h, _⟩ := h; exact absurd h (Nat.not_lt_zero _)
  | n + 1, hn => T.d_text_of.df fun f fd F => by
    have D_self := ok_text_of_n T n (by omega)
    refine F.ok sc_text_of (fun vs H Q E h => ?_) (fun cdv A outer s H vs Q E hr h => ?_)
    · obtain ⟨a, t, rfl, _⟩ := h; rfl
    · obtain ⟨a, t, rfl, hS, ok, hh, q⟩ := h
      refine ⟨_, (pss_cons (ps_if (pt_cmpR (ku_eq (K := K) (by rfl) (by exact hr.units)) (pv 0) (pe_tup pa_nil) (by first | exact nomark _ | rfl))
        (pss_one (ps_ret pe_str))
        pss_nil)
        (pss_cons (ps_set (i := 1) sc_text_of.nd rfl (.inl rfl) (pe_callTy (ku_tuple (K := K) (by rfl)) (by rfl) T.b_tuple (by decide +kernel) (pa_cons (pe_lc (own := [("key", 3)]) rfl sc_text_of.nd (ki_tup (K := K) (by rfl) (pe_slice (ksu (K := K) (by rfl)) (pv 0) (po_some pe_int) po_none)) (blkOk_by (N := ["keys", "below", "above", "key"]) (sc := defScope s_text_of) (own := [("key", 3)]) (by decide +kernel)) (fun _ _ _ _ _ => (pg_name (i := 3) sc_text_of.nd rfl (.inl rfl))) (fun _ _ _ _ _ => (pts_one (pt_cmpR (ku_lt (K := K) (by rfl) (by exact hr.units0)) (pv 3) (pe_ix (kixu (K := K) (by rfl) (by exact hu_of hr)) (pv 0) pe_int (fun _ _ => rfl)) (by first | exact nomark _ | rfl)))) (fun _ _ _ _ _ => (pv 3))) pa_nil)))
        (pss_cons (ps_set (i := 2) sc_text_of.nd rfl (.inl rfl) (pe_callTy (ku_tuple (K := K) (by rfl)) (by rfl) T.b_tuple (by decide +kernel) (pa_cons (pe_lc (own := [("key", 3)]) rfl sc_text_of.nd (ki_tup (K := K) (by rfl) (pe_slice (ksu (K := K) (by rfl)) (pv 0) (po_some pe_int) po_none)) (blkOk_by (N := ["keys", "below", "above", "key"]) (sc := defScope s_text_of) (own := [("key", 3)]) (by decide +kernel)) (fun _ _ _ _ _ => (pg_name (i := 3) sc_text_of.nd rfl (.inl rfl))) (fun _ _ _ _ _ => (pts_one (pt_cmpR op_gt (pv 3) (pe_ix (kixu (K := K) (by rfl) (by exact hu_of hr)) (pv 0) pe_int (fun _ _ => rfl)) (by first | exact nomark _ | rfl)))) (fun _ _ _ _ _ => (pv 3))) pa_nil)))
        (pss_cons (ps_if (pt_cmpR (ku_eq (K := K) (by rfl) (by exact hr.units)) (pe_op (ku_add (K := K) (by rfl)) (pv 1) (pv 2)) (pe_tup pa_nil) (by first | exact nomark _ | rfl))
        (pss_one (ps_ret (pe_callTy call_str_int (by rfl) T.b_str (by decide +kernel) (pa_cons (pe_ix (kixu (K := K) (by rfl) (by exact hu_of hr)) (pv 0) pe_int (fun _ _ => rfl)) pa_nil))))
        pss_nil)
        (pss_one (ps_ret (pe_joined (PJ.cons (pe_fmt (pe_ix (kixu (K := K) (by rfl) (by exact hu_of hr)) (pv 0) pe_int (fun _ _ => rfl))) (PJ.cons pe_str (PJ.cons (pe_fmt (pe_cd D_self (hr.mono (by omega)) (by rfl) (pa_cons (pv 1) pa_nil))) (PJ.cons pe_str (PJ.cons (pe_fmt (pe_cd D_self (hr.mono (by omega)) (by rfl) (pa_cons (pv 2) pa_nil))) (PJ.cons pe_str PJ.nil))))))))))))), ?_⟩
      show (_ : TS) _ [some (V.ref a), none, none, none] H
      leaf_len
      intro e he
      leaf_len
      refine r_eqTnil (ns := t.pre) (by got_up) (by got_up) ?_
      rw [Tr.isNil_pre]
      leaf_len
      cases t with
      | nil =>
        refine r_ifT rfl ?_
        leaf_len
        exact q _ (Same.new he)
      | node l k r =>
        refine r_ifF rfl ?_
        obtain ⟨b1, b2, b3, b4⟩ := ok.bst
        have hl24 := ok.len
        have eqS : (Tr.node l k r).pre.map V.int = V.int k :: (l.pre ++ r.pre).map V.int := rfl
        rw [eqS] at hS
        obtain ⟨f1, f2⟩ := Tr.filt b3 b4
        have hlen : (l.pre ++ r.pre).length ≤ 24 := by have := hl24; simp only [Tr.pre, List.length_cons] at this; omega
        leaf_len
        refine r_slT (xs := V.int k :: (l.pre ++ r.pre).map V.int) (by got_up) fun s1 H1 hs1 hS1 => ?_
        rw [cut_one] at hS1
        have hk1 : SqT K H1 a (V.int k :: (l.pre ++ r.pre).map V.int) := hs1.sqT ((Same.new he).sqT hS)
        have sm1 : Same H H1 := (Same.new he).trans hs1
        leaf_len
        refine c_tup (xs := (l.pre ++ r.pre).map V.int) (fun D i acc H' => H1 D = none ∧ Same H1 H' ∧ acc = (((l.pre ++ r.pre).take i).filter fun x => decide (x < k)).map V.int) (fun D hD => ⟨hD, Same.new hD, rfl⟩) (fun D i acc H' h => h.2.1.sqT hS1) ?_ ?_
        · rintro D i x acc H' hx hD ⟨h0, hs, rfl⟩
          obtain ⟨y, rfl, hy⟩ := map_get hx
          refine ⟨rfl, ?_⟩
          leaf_len
          refine r_ixT (hs.sqT hk1) (at_zero _ _) ?_
          leaf_len
          refine r_ite (fun c => ?_) (fun c => ?_)
          · leaf_len
            refine compYes hD ?_ ⟨h0, (Fr.put0 (S := []) (Fr.same hs) h0).toSame, ?_⟩
            · rw [List.length_map, sizeLine_eq]
              have := List.length_filter_le (fun x => decide (x < k)) ((l.pre ++ r.pre).take i)
              have := List.length_take_le' i (l.pre ++ r.pre)
              omega
            · rw [take_filter _ _ _ hy, if_pos (decide_eq_true c), List.map_append]; rfl
          · refine compNo hD ⟨h0, hs, ?_⟩
            rw [take_filter _ _ _ hy, if_neg (by simpa using c), List.append_nil]
        · rintro D acc H2 hD ⟨h0, hs, rfl⟩
          rw [List.length_map, List.take_length, f1] at hD
          leaf_len
          refine r_tupleL (by got_up) fun p1 H3 hs3 hp1 => ?_
          have sm3 : Same H H3 := (sm1.trans hs).trans hs3
          have hk3 : SqT K H3 a (V.int k :: (l.pre ++ r.pre).map V.int) := (hs.trans hs3).sqT hk1
          leaf_len
          refine r_slT hk3 fun s2 H4 hs4 hS4 => ?_
          rw [cut_one] at hS4
          have hk4 : SqT K H4 a (V.int k :: (l.pre ++ r.pre).map V.int) := hs4.sqT hk3
          leaf_len
          refine c_tup (xs := (l.pre ++ r.pre).map V.int) (fun D i acc H' => H4 D = none ∧ Same H4 H' ∧ acc = (((l.pre ++ r.pre).take i).filter fun x => decide (k < x)).map V.int) (fun D hD => ⟨hD, Same.new hD, rfl⟩) (fun D i acc H' h => h.2.1.sqT hS4) ?_ ?_
          · rintro D i x acc H' hx hD ⟨h0, hs, rfl⟩
            obtain ⟨y, rfl, hy⟩ := map_get hx
            refine ⟨rfl, ?_⟩
            leaf_len
            refine r_ixT (hs.sqT hk4) (at_zero _ _) ?_
            leaf_len
            refine r_ite (fun c => ?_) (fun c => ?_)
            · leaf_len
              refine compYes hD ?_ ⟨h0, (Fr.put0 (S := []) (Fr.same hs) h0).toSame, ?_⟩
              · rw [List.length_map, sizeLine_eq]
                have := List.length_filter_le (fun x => decide (k < x)) ((l.pre ++ r.pre).take i)
                have := List.length_take_le' i (l.pre ++ r.pre)
                omega
              · rw [take_filter _ _ _ hy, if_pos (decide_eq_true c), List.map_append]; rfl
            · refine compNo hD ⟨h0, hs, ?_⟩
              rw [take_filter _ _ _ hy, if_neg (by simpa using c), List.append_nil]
          · rintro D acc H5 hD ⟨h0, hs5, rfl⟩
            rw [List.length_map, List.take_length, f2] at hD
            leaf_len
            refine r_tupleL (by got_up) fun p2 H6 hs6 hp2 => ?_
            have sm46 : Same H3 H6 := (hs4.trans hs5).trans hs6
            have sm6 : Same H H6 := sm3.trans sm46
            have hk6 := sm46.sqT hk3
            have hl6 : SqT K H6 p1 (l.pre.map V.int) := sm46.sqT hp1
            leaf_len
            refine r_addT hl6 hp2 (by rw [List.length_map, List.length_map, sizeLine_eq]; rw [List.length_append] at hlen; omega) fun p3 H7 hs7 hp3 => ?_
            rw [← List.map_append] at hp3
            leaf_len
            intro e2 he2
            leaf_len
            have sm8 : Same H6 (upd H7 e2 (.tup [])) := hs7.trans (Same.new he2)
            refine r_eqTnil (ns := l.pre ++ r.pre) (by got_up) (by got_up) ?_
            leaf_len
            have hkk := ok.abs (k := k) (by simp [Tr.pre])
            have en : (l.pre ++ r.pre).isEmpty = (l.isNil && r.isNil) := by cases l <;> cases r <;> rfl
            rw [en]
            have hkk8 := sm8.sqT hk6
            refine r_bool (fun c => ?_) (fun c => ?_)
            · leaf_len
              refine r_ixT hkk8 (at_zero _ _) ?_
              leaf_len
              refine ⟨k, rfl, log_key hkk, ?_⟩
              have et : (Tr.node l k r).txtC = numC k := if_pos c
              have := q _ (sm6.trans sm8)
              rw [et, ← numC_str] at this
              exact this
            · leaf_len
              refine r_ixT hkk8 (at_zero _ _) ?_
              leaf_len
              refine ⟨log_key hkk, ?_⟩
              leaf_len
              have e1 : Str.empty ++ Str.ofString (toString k) = sOf (numC k) := by
                rw [numC_str]; exact sOf_app [] _
              have z1 := numC_len hkk
              have z2 := Tr.txt_len (t := l) fun x hx => ok.abs (by simp [Tr.pre, hx])
              have z3 := Tr.txt_len (t := r) fun x hx => ok.abs (by simp [Tr.pre, hx])
              rw [List.length_append] at hlen
              have e40 : Str.ofString "(" = sOf [40] := by decide +kernel
              have e44 : Str.ofString "," = sOf [44] := by decide +kernel
              have e41 : Str.ofString ")" = sOf [41] := by decide +kernel
              refine ⟨?_, ?_⟩
              · rw [e1, sOf_len, sizeLine_eq]; omega
              rw [e1, e40, e44, e41]
              leaf_len
              rw [sOf_app]
              refine ⟨?_, ?_⟩
              · rw [sOf_len, sizeLine_eq, List.length_append, List.length_singleton]; omega
              leaf_len
              have hht : l.ht < n ∧ r.ht < n := by
                simp only [Tr.ht] at hh
                omega
              refine ⟨p1, l, rfl, sm8.sqT hl6, ok.left, hht.1, fun H8 hs8 => ?_⟩
              leaf_len
              refine ⟨by rw [sOf_len, sizeLine_eq]; omega, ?_⟩
              leaf_len
              rw [sOf_app]
              refine ⟨?_, ?_⟩
              · rw [sOf_len, sizeLine_eq, List.length_append, List.length_append, List.length_singleton]; omega
              leaf_len
              rw [sOf_app]
              refine ⟨?_, ?_⟩
              · rw [sOf_len, sizeLine_eq, List.length_append, List.length_append, List.length_append, List.length_singleton, List.length_singleton]; omega
              leaf_len
              refine ⟨p2, r, rfl, hs8.sqT (sm8.sqT hp2), ok.right, hht.2, fun H9 hs9 => ?_⟩
              leaf_len
              refine ⟨by rw [sOf_len, sizeLine_eq]; omega, ?_⟩
              leaf_len
              rw [sOf_app]
              refine ⟨?_, ?_⟩
              · simp only [sOf_len, sizeLine_eq, List.length_append, List.length_singleton]; omega
              leaf_len
              rw [sOf_app]
              refine ⟨?_, ?_⟩
              · simp only [sOf_len, sizeLine_eq, List.length_append, List.length_singleton]; omega
              leaf_len
              have et : (Tr.node l k r).txtC = numC k ++ [40] ++ l.txtC ++ [44] ++ r.txtC ++ [41] := by
                show (if (l.isNil && r.isNil) = true then _ else _) = _
                rw [c]; simp
              rw [← et]
              exact q _ (((sm6.trans sm8).trans hs8).trans hs9)
/-- str(keys) of any tree -/
theorem ok_text_of (T : Txt K mg cs) : Df P w K mg base CX0 "text_of" ["keys"] 26 (spText K 26) := ok_text_of_n T 26 (by decide)
end

section
variable {P : Program} {w : World} {K : PySem.W.Frag} {mg : Str → Option Value} {base : Heap} {cs : Cs}
/-- a reader of the text l at the spot n -/
def rdF (l : List Nat) (n : Nat) : List (Str × V) := [("text", .str (sOf l)), ("spot", .int (n : Int))]
def RdAt (cs : Cs) (H : Hp) (p dx : Addr) (l : List Nat) (n : Nat) : Prop := H p = some (.ins cs.TextReader dx (rdF l n))
theorem rdF_put (l : List Nat) (n m : Nat) : putF "spot" (.int (m : Int)) (rdF l n) = rdF l m := by rfl
def spRdInit (cs : Cs) : Sp := fun vs H Q _ => ∃ p dx l, vs = [.ref p, .str (sOf l)] ∧ H p = some (.ins cs.TextReader dx []) ∧ Q .non (upd H p (.ins cs.TextReader dx (rdF l 0)))
theorem ok_TextReader (T : Txt K mg cs) : Dk P w K mg base CX0 cs.TextReader "TextReader" ["self", "text"] 1 (spRdInit cs) := T.k_TextReader.dk fun f fd F => by
  refine F.ok sc_TextReader___init__ (fun vs H Q E h => ?_) (fun cdv A outer s H vs Q E hr h => ?_)
  · obtain ⟨p, dx, l, rfl, _⟩ := h; rfl
  · obtain ⟨p, dx, l, rfl, hp, q⟩ := h
    refine ⟨_, (pss_cons (ks_fld (K := K) (by rfl) (pv 0) (pv 1) rfl)
        (pss_one (ks_fld (K := K) (by rfl) (pv 0) pe_int rfl))), ?_⟩
    show (_ : TS) _ [some (V.ref p), some (V.str (sOf l))] H
    leaf_len
    refine r_sfldAt hp T.cl_TextReader T.n_TextReader_text (by decide) ?_
    leaf_len
    refine r_sfldAt upd_same T.cl_TextReader T.n_TextReader_spot (by show 1 < 1000; decide) ?_
    rw [upd_upd]
    exact q
def spNext (cs : Cs) : Sp := fun vs H Q _ => ∃ p dx l n, vs = [.ref p] ∧ RdAt cs H p dx l n ∧ l.length ≤ 100000 ∧ Q (.str (sOf ((l.drop n).take 1))) H
theorem ok_TextReader_next_sign (T : Txt K mg cs) : Dm P w K mg base CX0 cs.TextReader "next_sign" ["self"] 1 (spNext cs) := T.m_TextReader_next_sign.dm T.cl_TextReader fun f fd F => by
  refine F.ok sc_TextReader_next_sign (fun vs H Q E h => ?_) (fun cdv A outer s H vs Q E hr h => ?_)
  · obtain ⟨p, dx, l, n, rfl, _⟩ := h; rfl
  · obtain ⟨p, dx, l, n, rfl, hp, hl, q⟩ := h
    refine ⟨_, (pss_one (ps_ret (pe_slice (ksu (K := K) (by rfl)) (ke_fld (K := K) (by rfl) (pv 0) rfl) (po_some (ke_fld (K := K) (by rfl) (pv 0) rfl)) (po_some (pe_op (ku_add (K := K) (by rfl)) (ke_fld (K := K) (by rfl) (pv 0) rfl) pe_int))))), ?_⟩
    show (_ : TS) _ [some (V.ref p)] H
    leaf_len
    refine r_fldAt hp T.cl_TextReader T.n_TextReader_text rfl ?_
    leaf_len
    refine r_fldAt hp T.cl_TextReader T.n_TextReader_spot rfl ?_
    leaf_len
    refine r_fldAt hp T.cl_TextReader T.n_TextReader_spot rfl ?_
    leaf_len
    refine r_slS (by rw [sOf_len, sizeLine_eq]; omega) ?_
    rw [show ((n : Int) + 1) = ((n + 1 : Nat) : Int) by omega, cutS_nat, show n + 1 - n = 1 by omega]
    exact q
def spExpect (cs : Cs) : Sp := fun vs H Q _ => ∃ p dx l n c, vs = [.ref p, .str (sOf [c])] ∧ RdAt cs H p dx l n ∧ l.length ≤ 100000 ∧ (l.drop n).take 1 = [c] ∧ Q .non (upd H p (.ins cs.TextReader dx (rdF l (n + 1))))
theorem ok_TextReader_expect (T : Txt K mg cs) : Dm P w K mg base CX0 cs.TextReader "expect" ["self", "sign"] 2 (spExpect cs) := T.m_TextReader_expect.dm T.cl_TextReader fun f fd F => by
  refine F.ok sc_TextReader_expect (fun vs H Q E h => ?_) (fun cdv A outer s H vs Q E hr h => ?_)
  · obtain ⟨p, dx, l, n, c, rfl, _⟩ := h; rfl
  · obtain ⟨p, dx, l, n, c, rfl, hp, hl, hc, q⟩ := h
    refine ⟨_, (pss_cons (ps_if (pt_cmpR (ku_ne (K := K) (by rfl) (by exact hr.units)) (pe_me0 (pv 0) (ok_TextReader_next_sign T) (hr.mono (by first | decide | omega))) (pv 1) (by first | exact nomark _ | rfl))
        (pss_one ps_never)
        pss_nil)
        (pss_one (ks_fldaug (K := K) (by rfl) (pv 0) pe_int in_add))), ?_⟩
    show (_ : TS) _ [some (V.ref p), some (V.str (sOf [c]))] H
    leaf_len
    refine r_methAt hp rfl ?_
    leaf_len
    refine ⟨p, dx, l, n, rfl, hp, hl, ?_⟩
    rw [hc]
    leaf_len
    refine r_iteN (fun z => (z rfl).elim) (fun _ => ?_)
    leaf_len
    refine r_augAt hp T.cl_TextReader T.n_TextReader_spot rfl ?_
    leaf_len
    refine ⟨_, _, rfl, rfl, dx, _, hp, by show 2 < 1000; decide, ?_⟩
    rw [show ((n : Int) + 1) = ((n + 1 : Nat) : Int) by omega, rdF_put]
    exact q
theorem digits_in2 (c : Nat) : decide (c ∈ (Str.ofString "0123456789" ++ Str.ofString "-").cps.toList) = (isDig c || decide (c = 45)) := by
  have e : (Str.ofString "0123456789" ++ Str.ofString "-").cps.toList = (Str.ofString "0123456789").cps.toList ++ [45] := by decide +kernel
  have h := digits_in c
  rw [e]
  cases h1 : isDig c with
  | true =>
    rw [h1] at h
    exact decide_eq_true (List.mem_append_left _ (of_decide_eq_true h))
  | false =>
    rw [h1] at h
    have h2 := of_decide_eq_false h
    by_cases h3 : c = 45
    · rw [decide_eq_true h3, decide_eq_true (List.mem_append_right _ (by rw [h3]; exact List.mem_singleton.mpr rfl))]; rfl
    · rw [decide_eq_false h3, decide_eq_false fun m => (List.mem_append.mp m).elim h2 fun m => h3 (List.mem_singleton.mp m)]; rfl
def isNum (c : Nat) : Bool := isDig c || decide (c = 45)
def noNum : List Nat → Bool
  | [] => true
  | c :: _ => !isNum c
def spReadKey (cs : Cs) : Sp := fun vs H Q _ => ∃ p dx l n ds rest k, vs = [.ref p] ∧ RdAt cs H p dx l n ∧ l.length ≤ 100000 ∧ l.drop n = ds ++ rest ∧ ds.all isNum = true ∧ noNum rest = true ∧ parseKey ds = some k ∧
  ∀ H', Fr [p] H H' → RdAt cs H' p dx l (n + ds.length) → Q (.int k) H'
theorem ok_TextReader_read_key (T : Txt K mg cs) : Dm P w K mg base CX0 cs.TextReader "read_key" ["self"] 3 (spReadKey cs) := T.m_TextReader_read_key.dm T.cl_TextReader fun f fd F => by
  refine F.ok sc_TextReader_read_key (fun vs H Q E h => ?_) (fun cdv A outer s H vs Q E hr h => ?_)
  · obtain ⟨p, dx, l, n, ds, rest, k, rfl, _⟩ := h; rfl
  · obtain ⟨p, dx, l, n, ds, rest, k, rfl, hp, hl, hd, hds, hno, hk, q⟩ := h
    refine ⟨_, (pss_cons (ps_set (i := 1) sc_TextReader_read_key.nd rfl (.inl rfl) (ke_fld (K := K) (by rfl) (pv 0) rfl))
        (pss_cons (ps_while PassesOwn.never (PW.pt (pw_and (pt_cmpR (ku_ne (K := K) (by rfl) (by exact hr.units)) (pe_me0 (pv 0) (ok_TextReader_next_sign T) (hr.mono (by first | decide | omega))) pe_str (by first | exact nomark _ | rfl)) (pw_and1 (pt_cmpR (ku_in (K := K) (by rfl) (by exact hu_of hr)) (pe_me0 (pv 0) (ok_TextReader_next_sign T) (hr.mono (by first | decide | omega))) (pe_op (ku_add (K := K) (by rfl)) (pe_globS T.g_DIGITS) pe_str) (by first | exact nomark _ | rfl)))))
        (pss_one (ks_fldaug (K := K) (by rfl) (pv 0) pe_int in_add)))
        (pss_cons (ps_set (i := 2) sc_TextReader_read_key.nd rfl (.inl rfl) (pe_cd (ok_parse_key T) (hr.mono (by first | decide | omega)) (by rfl) (pa_cons (pe_slice (ksu (K := K) (by rfl)) (ke_fld (K := K) (by rfl) (pv 0) rfl) (po_some (pv 1)) (po_some (ke_fld (K := K) (by rfl) (pv 0) rfl))) pa_nil)))
        (pss_cons (ps_if (pt_cmpR op_isN (pv 2) pe_non (nomark _))
        (pss_one ps_never)
        pss_nil)
        (pss_one (ps_ret (pv 2))))))), ?_⟩
    show (_ : TS) _ [some (V.ref p), none, none] H
    leaf_len
    refine r_fldAt hp T.cl_TextReader T.n_TextReader_spot rfl ?_
    leaf_len
    have hdl : n + ds.length ≤ l.length := by
      have := congrArg List.length hd
      rw [List.length_drop, List.length_append] at this
      by_cases hn : n ≤ l.length
      · omega
      · have h0 : ds.length = 0 := by omega
        have hds0 : ds = [] := List.length_eq_zero_iff.mp h0
        subst hds0
        cases hk
    refine r_while (fun m σ H' => ∃ i, m = ds.length - i ∧ i ≤ ds.length ∧ σ = [some (V.ref p), some (V.int n), none] ∧ Fr [p] H H' ∧ RdAt cs H' p dx l (n + i)) ds.length ⟨0, rfl, Nat.zero_le _, rfl, Fr.refl, hp⟩ ?_
    rintro m σ H' ⟨i, rfl, hi, rfl, hf, hp'⟩
    have hdi : l.drop (n + i) = ds.drop i ++ rest := by
      rw [← List.drop_drop, hd, List.drop_append_of_le_length hi]
    have e0 : ("" : Str) = sOf [] := rfl
    by_cases hlt : i < ds.length
    · obtain ⟨c, r, hc⟩ : ∃ c r, ds.drop i = c :: r := by
        cases e : ds.drop i with
        | nil => have := congrArg List.length e; rw [List.length_drop, List.length_nil] at this; omega
        | cons c r => exact ⟨c, r, rfl⟩
      have hcn : isNum c = true := (List.all_eq_true.mp hds) c (List.mem_of_mem_drop (i := i) (by rw [hc]; exact List.mem_cons_self))
      rw [hc] at hdi
      leaf_len
      refine r_methAt hp' rfl ?_
      leaf_len
      refine ⟨p, dx, l, n + i, rfl, hp', hl, ?_⟩
      rw [hdi]
      leaf_len
      refine r_methAt hp' rfl ?_
      leaf_len
      refine ⟨p, dx, l, n + i, rfl, hp', hl, ?_⟩
      rw [hdi]
      leaf_len
      refine r_addS (by decide) ?_
      refine r_inS ?_
      rw [digits_in2]
      refine ⟨_, rfl, ?_⟩
      refine r_ifT hcn ?_
      refine r_whileIn ?_
      leaf_len
      refine r_augAt hp' T.cl_TextReader T.n_TextReader_spot rfl ?_
      leaf_len
      refine ⟨_, _, rfl, rfl, dx, _, hp', by show 2 < 1000; decide, ?_⟩
      rw [show (((n + i : Nat) : Int) + 1) = ((n + (i + 1) : Nat) : Int) by omega, rdF_put]
      exact ⟨ds.length - (i + 1), by omega, i + 1, rfl, by omega, rfl, hf.put hp' (fun h => h) (List.mem_singleton.mpr rfl), upd_same⟩
    · have hi' : i = ds.length := by omega
      have hdr : l.drop (n + ds.length) = rest := by rw [hi', List.drop_length, List.nil_append] at hdi; exact hdi
      subst hi'
      rw [List.drop_length, List.nil_append] at hdi
      have hcut : (l.drop n).take (n + ds.length - n) = ds := by
        rw [hd, show n + ds.length - n = ds.length by omega, List.take_left]
      leaf_len
      refine r_methAt hp' rfl ?_
      leaf_len
      refine ⟨p, dx, l, n + ds.length, rfl, hp', hl, ?_⟩
      rw [hdr]
      cases rest with
      | nil =>
        leaf_len
        refine r_fldAt hp' T.cl_TextReader T.n_TextReader_text rfl ?_
        leaf_len
        refine r_fldAt hp' T.cl_TextReader T.n_TextReader_spot rfl ?_
        leaf_len
        refine r_slS (by rw [sOf_len, sizeLine_eq]; omega) ?_
        rw [cutS_nat, hcut]
        leaf_len
        refine ⟨ds, rfl, by have := hl; omega, fun H2 hs => ?_⟩
        rw [hk]
        leaf_len
        exact q H2 (hf.trans (Fr.same hs)) (same_at hs hp')
      | cons c r =>
        have hcn : isNum c = false := by simpa [noNum] using hno
        leaf_len
        refine r_methAt hp' rfl ?_
        leaf_len
        refine ⟨p, dx, l, n + ds.length, rfl, hp', hl, ?_⟩
        rw [hdr]
        leaf_len
        refine r_addS (by decide) ?_
        refine r_inS ?_
        rw [digits_in2]
        refine ⟨_, rfl, ?_⟩
        refine r_ifF hcn ?_
        leaf_len
        refine r_fldAt hp' T.cl_TextReader T.n_TextReader_text rfl ?_
        leaf_len
        refine r_fldAt hp' T.cl_TextReader T.n_TextReader_spot rfl ?_
        leaf_len
        refine r_slS (by rw [sOf_len, sizeLine_eq]; omega) ?_
        rw [cutS_nat, hcut]
        leaf_len
        refine ⟨ds, rfl, by have := hl; omega, fun H2 hs => ?_⟩
        rw [hk]
        leaf_len
        exact q H2 (hf.trans (Fr.same hs)) (same_at hs hp')
end

section
variable {P : Program} {w : World} {K : PySem.W.Frag} {mg : Str → Option Value} {base : Heap} {cs : Cs}
theorem Dm.mono {CX : CXT} {C : Addr} {m : Str} {ps : List Str} {sp : Sp} {j k : Nat} (D : Dm P w K mg base CX C m ps j sp) (h : j ≤ k) : Dm P w K mg base CX C m ps k sp := by
  obtain ⟨f, fd, F, g⟩ := D.ex
  exact ⟨D.cl, f, fd, F.mono h, g⟩
def endT : List Nat → Prop
  | [] => True
  | c :: _ => c = 44 ∨ c = 41
theorem endT.noNum : ∀ {l : List Nat}, endT l → noNum l = true
  | [], _ => rfl
  | _ :: _, .inl h => by subst h; rfl
  | _ :: _, .inr h => by subst h; rfl
theorem numC_num (k : Int) : (numC k).all isNum = true := by
  have h := numL_all k.natAbs
  have h2 : (TL.numL k.natAbs).all isNum = true := List.all_eq_true.mpr fun c hc => by
    have := (List.all_eq_true.mp h) c hc
    unfold isNum; rw [this]; rfl
  unfold numC
  split
  · show (isNum 45 && _) = true
    rw [h2]; rfl
  · exact h2
theorem numC_ne (k : Int) : ∃ c r, numC k = c :: r ∧ isNum c = true := by
  have h := numC_num k
  cases e : numC k with
  | nil =>
    unfold numC at e
    split at e
    · cases e
    · exact absurd e (TL.numL_ne _)
  | cons c r => rw [e] at h; exact ⟨c, r, rfl, (List.all_eq_true.mp h) c List.mem_cons_self⟩
theorem txtC_head {t : Tr} (h : t ≠ .nil) : ∃ c r, t.txtC = c :: r ∧ isNum c = true := by
  cases t with
  | nil => exact absurd rfl h
  | node l k r =>
    obtain ⟨c, x, e, hc⟩ := numC_ne k
    unfold Tr.txtC
    split
    · exact ⟨c, x, e, hc⟩
    · rw [e]; exact ⟨c, _, rfl, hc⟩
theorem sOf_e0 : ("" : Str) = sOf [] := by rfl
theorem sOf_e44 : ("," : Str) = sOf [44] := by decide +kernel
theorem sOf_e41 : (")" : Str) = sOf [41] := by decide +kernel
theorem sOf_e40 : ("(" : Str) = sOf [40] := by decide +kernel
theorem in_signs (l : List Nat) (h : endT l) : inV (.str (sOf (l.take 1))) [.str "", .str ",", .str ")"] = true := by
  rw [sOf_e0, sOf_e44, sOf_e41]
  cases l with
  | nil => decide +kernel
  | cons c r =>
    show inV (.str (sOf [c])) _ = true
    rcases h with h | h <;> subst h <;> decide +kernel
theorem beq_no {a b : Str} (h : a ≠ b) : (a == b) = false := by
  cases e : a == b with
  | false => rfl
  | true => exact absurd (eq_of_beq e) h
theorem not_in_signs {c : Nat} {r : List Nat} (h : isNum c = true) : inV (.str (sOf ((c :: r).take 1))) [.str "", .str ",", .str ")"] = false := by
  unfold isNum isDig at h
  rw [sOf_e0, sOf_e44, sOf_e41]
  show ((sOf [] == sOf [c]) || ((sOf [44] == sOf [c]) || ((sOf [41] == sOf [c]) || false))) = false
  have h : c ≠ 44 ∧ c ≠ 41 := by
    rw [Bool.or_eq_true, Bool.and_eq_true, decide_eq_true_eq, decide_eq_true_eq, decide_eq_true_eq] at h
    omega
  rw [beq_no fun z => (by simpa using sOf_inj.mp z), beq_no fun z => h.1 (by have := sOf_inj.mp z; simpa using this.symm), beq_no fun z => h.2 (by have := sOf_inj.mp z; simpa using this.symm)]
  rfl
theorem drop_add {l a b : List Nat} {i : Nat} (h : l.drop i = a ++ b) : l.drop (i + a.length) = b := by
  rw [← List.drop_drop, h, List.drop_left]
def spReadKeys (cs : Cs) (K : PySem.W.Frag) (n : Nat) : Sp := fun vs H Q _ => ∃ p dx l i lev t rest, vs = [.ref p, .int lev] ∧ RdAt cs H p dx l i ∧ l.length ≤ 100000 ∧ l.drop i = t.txtC ++ rest ∧ endT rest ∧ TOk t ∧ t.ht < n ∧ lev + t.ht ≤ 24 ∧
  ∀ H' a, Fr [p] H H' → SqT K H' a (t.pre.map V.int) → RdAt cs H' p dx l (i + t.txtC.length) → Q (.ref a) H'
theorem ok_TextReader_read_keys_n (T : Txt K mg cs) : ∀ n : Nat, n ≤ 30 → Dm P w K mg base CX0 cs.TextReader "read_keys" ["self", "level"] (n + 3) (spReadKeys cs K n)
  | 0, _ => Dm.mono (j := 0) (T.m_TextReader_read_keys.zero T.cl_TextReader fun vs H Q E h => by obtain ⟨_, _, _, _, _, _, _, _, _, _, _, _, _, h, _⟩ := h; exact absurd h (Nat.not_lt_zero _)) (Nat.zero_le _)
  | n + 1, hn => T.m_TextReader_read_keys.dm T.cl_TextReader fun f fd F => by
    have D_self := ok_TextReader_read_keys_n T n (by omega)
    refine F.ok sc_TextReader_read_keys (fun vs H Q E h => ?_) (fun cdv A outer s H vs Q E hr h => ?_)
    · obtain ⟨p, dx, l, i, lev, t, rest, rfl, _⟩ := h; rfl
    · obtain ⟨p, dx, l, i, lev, t, rest, rfl, hp, hl, hd, hend, ok, hn', hlev, q⟩ := h
      refine ⟨_, (pss_cons (ps_if (pt_cmpR op_gt (pv 1) (pe_globI T.g_MOST_LEVELS) (by first | exact nomark _ | rfl))
        (pss_one ps_never)
        pss_nil)
        (pss_cons (ps_if (pt_cmpR (ku_in (K := K) (by rfl) (by exact hu_of hr)) (pe_me0 (pv 0) (ok_TextReader_next_sign T) (hr.mono (by first | decide | omega))) (pe_tup (pa_cons pe_str (pa_cons pe_str (pa_cons pe_str pa_nil)))) (by first | exact nomark _ | rfl))
        (pss_one (ps_ret (pe_tup pa_nil)))
        pss_nil)
        (pss_cons (ps_set (i := 2) sc_TextReader_read_keys.nd rfl (.inl rfl) (pe_me0 (pv 0) (ok_TextReader_read_key T) (hr.mono (by first | decide | omega))))
        (pss_cons (ps_if (pt_cmpR (ku_ne (K := K) (by rfl) (by exact hr.units)) (pe_me0 (pv 0) (ok_TextReader_next_sign T) (hr.mono (by first | decide | omega))) pe_str (by first | exact nomark _ | rfl))
        (pss_one (ps_ret (pe_tup (pa_cons (pv 2) pa_nil))))
        pss_nil)
        (pss_cons (ps_expr (pe_me (pv 0) (ok_TextReader_expect T) (hr.mono (by first | decide | omega)) (pa_cons pe_str pa_nil)))
        (pss_cons (ps_set (i := 3) sc_TextReader_read_keys.nd rfl (.inl rfl) (pe_me (pv 0) D_self (hr.mono (by omega)) (pa_cons (pe_op (ku_add (K := K) (by rfl)) (pv 1) pe_int) pa_nil)))
        (pss_cons (ps_expr (pe_me (pv 0) (ok_TextReader_expect T) (hr.mono (by first | decide | omega)) (pa_cons pe_str pa_nil)))
        (pss_cons (ps_set (i := 4) sc_TextReader_read_keys.nd rfl (.inl rfl) (pe_me (pv 0) D_self (hr.mono (by omega)) (pa_cons (pe_op (ku_add (K := K) (by rfl)) (pv 1) pe_int) pa_nil)))
        (pss_cons (ps_expr (pe_me (pv 0) (ok_TextReader_expect T) (hr.mono (by first | decide | omega)) (pa_cons pe_str pa_nil)))
        (pss_one (ps_ret (pe_op (ku_add (K := K) (by rfl)) (pe_op (ku_add (K := K) (by rfl)) (pe_tup (pa_cons (pv 2) pa_nil)) (pv 3)) (pv 4))))))))))))), ?_⟩
      show (_ : TS) _ [some (V.ref p), some (V.int lev), none, none, none] H
      leaf_len
      refine r_ite (fun z => absurd hlev (by omega)) (fun _ => ?_)
      leaf_len
      refine r_methAt hp rfl ?_
      leaf_len
      refine ⟨p, dx, l, i, rfl, hp, hl, ?_⟩
      rw [hd]
      leaf_len
      intro e he
      leaf_len
      refine r_inT (sqT_at upd_same) rfl rfl ?_
      have hp1 := at_ne (ne_new he hp) hp (u := .tup [.str "", .str ",", .str ")"])
      cases t with
      | nil =>
        rw [show (Tr.nil.txtC ++ rest) = rest from rfl, in_signs rest hend]
        leaf_len
        intro e2 he2
        exact q _ _ ((Fr.same (Same.new he)).new he2) (sqT_at upd_same) (at_ne (ne_new he2 hp1) hp1)
      | node lt k rt =>
        obtain ⟨c, x, hc, hcn⟩ := txtC_head (t := .node lt k rt) (fun z => nomatch z)
        rw [hc, List.cons_append, not_in_signs hcn]
        leaf_len
        have hs1 := Same.new he (o := .tup [.str "", .str ",", .str ")"])
        generalize upd H e (HO.tup [.str "", .str ",", .str ")"]) = H1 at hp1 hs1 ⊢
        refine r_methAt hp1 rfl ?_
        leaf_len
        have hkk := ok.abs (k := k) (by simp [Tr.pre])
        have e40 := sOf_e40
        by_cases hleaf : (lt.isNil && rt.isNil) = true
        · have et : (Tr.node lt k rt).txtC = numC k := if_pos hleaf
          have ep : (Tr.node lt k rt).pre = [k] := by
            rw [Bool.and_eq_true] at hleaf
            cases lt with
            | nil =>
              cases rt with
              | nil => rfl
              | node => exact absurd hleaf.2 (fun z => nomatch z)
            | node => exact absurd hleaf.1 (fun z => nomatch z)
          rw [et] at hd q
          rw [ep] at q
          refine ⟨p, dx, l, i, numC k, rest, k, rfl, hp1, hl, hd, numC_num k, hend.noNum, parseKey_numC hkk, fun H2 f2 r2 => ?_⟩
          leaf_len
          refine r_methAt r2 rfl ?_
          leaf_len
          refine ⟨p, dx, l, i + (numC k).length, rfl, r2, hl, ?_⟩
          rw [drop_add hd]
          leaf_len
          rw [e40]
          refine r_iteN (fun _ => ?_) (fun z => ?_)
          · leaf_len
            intro a ha
            exact q _ a (((Fr.same hs1).trans f2).new ha) (sqT_at upd_same) (at_ne (ne_new ha r2) r2)
          · have z := sOf_inj.mp (V.str.inj z)
            cases rest with
            | nil => cases z
            | cons c r =>
              have z : c = 40 := by simpa using z
              subst z
              exact absurd hend (fun z => z.elim (fun z => nomatch z) (fun z => nomatch z))
        · have et : (Tr.node lt k rt).txtC = numC k ++ 40 :: (lt.txtC ++ 44 :: (rt.txtC ++ [41])) := if_neg hleaf
          have hd0 : l.drop i = numC k ++ (40 :: (lt.txtC ++ 44 :: (rt.txtC ++ 41 :: rest))) := by rw [hd, et]; simp
          refine ⟨p, dx, l, i, numC k, _, k, rfl, hp1, hl, hd0, numC_num k, rfl, parseKey_numC hkk, fun H2 f2 r2 => ?_⟩
          have hd1 := drop_add hd0
          have hd2 := drop_add (a := [40]) hd1
          have hd3 := drop_add hd2
          have hd4 := drop_add (a := [44]) hd3
          have hd5 := drop_add hd4
          have hd6 := drop_add (a := [41]) hd5
          simp only [List.length_singleton] at hd2 hd3 hd4 hd5 hd6
          leaf_len
          refine r_methAt r2 rfl ?_
          leaf_len
          refine ⟨p, dx, l, i + (numC k).length, rfl, r2, hl, ?_⟩
          rw [hd1]
          leaf_len
          refine r_methAt r2 rfl ?_
          leaf_len
          refine ⟨p, dx, l, i + (numC k).length, 40, by rw [← e40]; rfl, r2, hl, by rw [hd1]; rfl, ?_⟩
          have f3 := f2.put (u := .ins cs.TextReader dx (rdF l (i + (numC k).length + 1))) r2 (fun h => h) (List.mem_singleton.mpr rfl)
          have r3 : RdAt cs (upd H2 p (.ins cs.TextReader dx (rdF l (i + (numC k).length + 1)))) p dx l (i + (numC k).length + 1) := upd_same
          generalize upd H2 p (.ins cs.TextReader dx (rdF l (i + (numC k).length + 1))) = H3 at f3 r3 ⊢
          have hht : lt.ht < n ∧ rt.ht < n ∧ lev + 1 + lt.ht ≤ 24 ∧ lev + 1 + rt.ht ≤ 24 := by
            simp only [Tr.ht] at hn' hlev
            omega
          leaf_len
          refine r_methAt r3 rfl ?_
          leaf_len
          refine ⟨p, dx, l, _, lev + 1, lt, _, rfl, r3, hl, hd2, .inl rfl, ok.left, hht.1, hht.2.2.1, fun H4 a f4 s4 r4 => ?_⟩
          leaf_len
          refine r_methAt r4 rfl ?_
          leaf_len
          refine ⟨p, dx, l, _, 44, by rw [sOf_e44]; rfl, r4, hl, by rw [hd3]; rfl, ?_⟩
          have f5 := (f3.trans f4).put (u := .ins cs.TextReader dx (rdF l (i + (numC k).length + 1 + lt.txtC.length + 1))) r4 (fun h => h) (List.mem_singleton.mpr rfl)
          have r5 : RdAt cs (upd H4 p (.ins cs.TextReader dx (rdF l (i + (numC k).length + 1 + lt.txtC.length + 1)))) p dx l (i + (numC k).length + 1 + lt.txtC.length + 1) := upd_same
          have s5 := sqT_upd2 r4 (fun h => h) s4 (u := .ins cs.TextReader dx (rdF l (i + (numC k).length + 1 + lt.txtC.length + 1)))
          generalize upd H4 p (.ins cs.TextReader dx (rdF l (i + (numC k).length + 1 + lt.txtC.length + 1))) = H5 at f5 r5 s5 ⊢
          leaf_len
          refine r_methAt r5 rfl ?_
          leaf_len
          refine ⟨p, dx, l, _, lev + 1, rt, _, rfl, r5, hl, hd4, .inr rfl, ok.right, hht.2.1, hht.2.2.2, fun H6 b f6 s6 r6 => ?_⟩
          leaf_len
          refine r_methAt r6 rfl ?_
          leaf_len
          refine ⟨p, dx, l, _, 41, by rw [sOf_e41]; rfl, r6, hl, by rw [hd5]; rfl, ?_⟩
          have f7 := (f5.trans f6).put (u := .ins cs.TextReader dx (rdF l (i + (numC k).length + 1 + lt.txtC.length + 1 + rt.txtC.length + 1))) r6 (fun h => h) (List.mem_singleton.mpr rfl)
          have r7 : RdAt cs (upd H6 p (.ins cs.TextReader dx (rdF l (i + (numC k).length + 1 + lt.txtC.length + 1 + rt.txtC.length + 1)))) p dx l (i + (numC k).length + 1 + lt.txtC.length + 1 + rt.txtC.length + 1) := upd_same
          have s7 := sqT_upd2 r6 (fun h => h) s6 (u := .ins cs.TextReader dx (rdF l (i + (numC k).length + 1 + lt.txtC.length + 1 + rt.txtC.length + 1)))
          have t7 := sqT_upd2 r6 (fun h => h) (f6.sqT s5) (u := .ins cs.TextReader dx (rdF l (i + (numC k).length + 1 + lt.txtC.length + 1 + rt.txtC.length + 1)))
          generalize upd H6 p (.ins cs.TextReader dx (rdF l (i + (numC k).length + 1 + lt.txtC.length + 1 + rt.txtC.length + 1))) = H7 at f7 r7 s7 t7 ⊢
          leaf_len
          intro d hd'
          have sm8 := Same.new hd' (o := .tup [.int k])
          have s8 : SqT K (upd H7 d (.tup [.int k])) d [.int k] := sqT_at upd_same
          generalize upd H7 d (HO.tup [.int k]) = H8 at sm8 s8 ⊢
          have hlen := ok.len
          simp only [Tr.pre, List.length_cons, List.length_append] at hlen
          leaf_len
          refine r_addT s8 (sm8.sqT t7) (by rw [List.length_singleton, List.length_map, sizeLine_eq]; omega) fun u H9 sm9 s9 => ?_
          leaf_len
          refine r_addT s9 (sm9.sqT (sm8.sqT s7)) (by rw [List.length_append, List.length_singleton, List.length_map, List.length_map, sizeLine_eq]; omega) fun u2 Ha sma sa => ?_
          have := q Ha u2 ((Fr.same hs1).trans (f7.trans (Fr.same (sm8.trans (sm9.trans sma))))) (by
            rw [show (Tr.node lt k rt).pre = [k] ++ lt.pre ++ rt.pre by simp [Tr.pre], List.map_append, List.map_append]; exact sa) (by
            rw [et]
            have : i + (numC k ++ 40 :: (lt.txtC ++ 44 :: (rt.txtC ++ [41]))).length = i + (numC k).length + 1 + lt.txtC.length + 1 + rt.txtC.length + 1 := by
              simp only [List.length_append, List.length_cons, List.length_nil]; omega
            rw [this]
            exact sma _ _ (sm9 _ _ (sm8 _ _ r7)))
          exact this
end

section
variable {P : Program} {w : World} {K : PySem.W.Frag} {mg : Str → Option Value} {base : Heap} {cs : Cs}
theorem popW_over {k : Int} : ∀ (ws : List Int) (b : Option Int), (∀ x ∈ ws, k < x) → popW k ws b = (ws, b)
  | [], _, _ => rfl
  | x :: ws, b, h => by
    have := h x List.mem_cons_self
    unfold popW
    rw [if_neg (by omega)]
theorem popW_all {y k : Int} : ∀ (s ws : List Int) (b : Option Int), (∀ x ∈ s, x < y) → k < y → (∀ x ∈ ws, y < x) → popW y (s ++ k :: ws) b = (ws, some k)
  | [], ws, b, _, hk, hw => by
    show popW y (k :: ws) b = _
    unfold popW
    rw [if_pos hk]
    exact popW_over ws _ hw
  | x :: s, ws, b, h, hk, hw => by
    show popW y (x :: (s ++ k :: ws)) b = _
    unfold popW
    rw [if_pos (h x List.mem_cons_self)]
    exact popW_all s ws _ (fun z hz => h z (List.mem_cons_of_mem _ hz)) hk hw
def bLt (b : Option Int) (y : Int) : Prop := ∀ x, b = some x → x < y
theorem under_no {b : Option Int} {y : Int} (h : bLt b y) : under y b = false := by
  cases b with
  | none => rfl
  | some x => exact decide_eq_false (by have := h x rfl; omega)
theorem preGo_tree : ∀ (t : Tr) (rest ws : List Int) (b : Option Int), t.Bst → (∀ x ∈ t.pre, bLt b x) → (∀ x ∈ t.pre, ∀ y ∈ ws, x < y) →
    (∀ s b', (∀ x ∈ s, x ∈ t.pre) → (b' = b ∨ ∃ x ∈ t.pre, b' = some x) → preGo rest (s ++ ws) b' = true) → preGo (t.pre ++ rest) ws b = true
  | .nil, rest, ws, b, _, _, _, h => h [] b (fun _ z => nomatch z) (.inl rfl)
  | .node l k r, rest, ws, b, ht, hb, hw, h => by
    obtain ⟨b1, b2, b3, b4⟩ := ht
    have mk : k ∈ (Tr.node l k r).pre := by simp [Tr.pre]
    have ml : ∀ x ∈ l.pre, x ∈ (Tr.node l k r).pre := fun x hx => by simp [Tr.pre, hx]
    have mr : ∀ x ∈ r.pre, x ∈ (Tr.node l k r).pre := fun x hx => by simp [Tr.pre, hx]
    have e : (Tr.node l k r).pre ++ rest = k :: (l.pre ++ (r.pre ++ rest)) := by simp [Tr.pre]
    rw [e]
    unfold preGo
    rw [under_no (hb k mk), popW_over ws b (fun y hy => hw k mk y hy)]
    refine preGo_tree l (r.pre ++ rest) (k :: ws) b b1 (fun x hx => hb x (ml x hx)) (fun x hx y hy => ?_) fun s b' hs hb' => ?_
    · rcases List.mem_cons.mp hy with e | hy
      · rw [e]; exact b3 x hx
      · exact hw x (ml x hx) y hy
    · cases hr : r.pre with
      | nil =>
        have := h (s ++ [k]) b' (fun x hx => (List.mem_append.mp hx).elim (fun hx => ml x (hs x hx)) fun hx => by rw [List.mem_singleton.mp hx]; exact mk)
          (hb'.elim .inl fun ⟨x, hx, e⟩ => .inr ⟨x, ml x hx, e⟩)
        rw [List.append_assoc] at this
        exact this
      | cons y ks =>
        have hy : y ∈ r.pre := by rw [hr]; exact List.mem_cons_self
        have hky := b4 y hy
        have go := preGo_tree r rest ws (some k) b2 (fun x hx z e => by cases e; exact b4 x hx) (fun x hx z hz => hw x (mr x hx) z hz) fun s2 b2' hs2 hb2' =>
          h s2 b2' (fun x hx => mr x (hs2 x hx)) (hb2'.elim (fun e => .inr ⟨k, mk, e⟩) fun ⟨x, hx, e⟩ => .inr ⟨x, mr x hx, e⟩)
        rw [hr] at go
        have go2 : preGo (y :: (ks ++ rest)) ws (some k) = true := go
        show preGo (y :: (ks ++ rest)) (s ++ k :: ws) b' = true
        unfold preGo at go2 ⊢
        rw [popW_over ws _ (fun z hz => hw y (mr y hy) z hz), under_no (by intro z e; cases e; exact hky)] at go2
        rw [popW_all s ws b' (fun z hz => by have := b3 z (hs z hz); omega) hky (fun z hz => hw y (mr y hy) z hz), under_no (b := b') (y := y) (by
          rcases hb' with e | ⟨x, hx, e⟩
          · rw [e]; exact hb y (mr y hy)
          · intro z ez
            rw [e] at ez
            cases ez
            have := b3 x hx; omega)]
        exact go2
theorem preGo_of {t : Tr} (h : t.Bst) : preGo t.pre [] none = true := by
  have := preGo_tree t [] [] none h (fun _ _ _ e => nomatch e) (fun _ _ _ h => nomatch h) fun _ _ _ _ => by unfold preGo; rfl
  rwa [List.append_nil] at this
theorem ok_TextReader_read_keys (T : Txt K mg cs) : Dm P w K mg base CX0 cs.TextReader "read_keys" ["self", "level"] 33 (spReadKeys cs K 30) := ok_TextReader_read_keys_n T 30 (by decide)
def spShow (K : PySem.W.Frag) : Sp := fun vs H Q _ => ∃ a t, vs = [.ref a] ∧ SqT K H a (t.pre.map V.int) ∧ TOk t ∧ t ≠ .nil ∧ ∀ H', Same H H' → Q (.str (sOf t.txtC)) H'
theorem isTree_of {t : Tr} (ok : TOk t) (h : t ≠ .nil) : isTreeL t.pre = true := by
  unfold isTreeL
  have h1 : 1 ≤ t.pre.length := by
    cases t with
    | nil => exact absurd rfl h
    | node l k r => simp only [Tr.pre, List.length_cons]; omega
  rw [decide_eq_true h1, decide_eq_true ok.len, List.all_eq_true.mpr fun x hx => decide_eq_true (ok.key x hx), decide_eq_true (Tr.pre_nodup ok.bst), preGo_of ok.bst]
  rfl
theorem ok_show_tree (T : Txt K mg cs) : Df P w K mg base CX0 "show_tree" ["tree"] 33 (spShow K) := T.d_show_tree.df fun f fd F => by
  refine F.ok sc_show_tree (fun vs H Q E h => ?_) (fun cdv A outer s H vs Q E hr h => ?_)
  · obtain ⟨a, t, rfl, _⟩ := h; rfl
  · obtain ⟨a, t, rfl, hS, ok, hn, q⟩ := h
    refine ⟨_, (pss_cons (ps_expr (pe_cd (ok_require_tree T) (hr.mono (by first | decide | omega)) (by rfl) (pa_cons (pv 0) pa_nil)))
        (pss_one (ps_ret (pe_cd (ok_text_of T) (hr.mono (by first | decide | omega)) (by rfl) (pa_cons (pv 0) pa_nil))))), ?_⟩
    show (_ : TS) _ [some (V.ref a)] H
    leaf_len
    have hl := ok.len
    refine ⟨a, t.pre, rfl, hS, by omega, isTree_of ok hn, fun H1 hs1 => ?_⟩
    leaf_len
    refine ⟨a, t, rfl, hs1.sqT hS, ok, by have := t.ht_le; omega, fun H2 hs2 => ?_⟩
    exact q H2 (hs1.trans hs2)
theorem fr_same {x : Addr} {H H' : Hp} (hx : H x = none) (f : Fr [x] H H') : Same H H' := fun b o h => f b o h fun m => by
  rw [List.mem_singleton.mp m, hx] at h; cases h
def spRead (K : PySem.W.Frag) : Sp := fun vs H Q _ => ∃ t, vs = [.str (sOf t.txtC)] ∧ TOk t ∧ t ≠ .nil ∧ ∀ H' a, Same H H' → SqT K H' a (t.pre.map V.int) → Q (.ref a) H'
theorem ok_read_tree (T : Txt K mg cs) : Df P w K mg base CX0 "read_tree" ["text"] 35 (spRead K) := T.d_read_tree.df fun f fd F => by
  refine F.ok sc_read_tree (fun vs H Q E h => ?_) (fun cdv A outer s H vs Q E hr h => ?_)
  · obtain ⟨t, rfl, _⟩ := h; rfl
  · obtain ⟨t, rfl, ok, hn, q⟩ := h
    refine ⟨_, (pss_cons (ps_if (pt_not (pt_val (pe_callB (ku_isi (K := K) (by rfl)) (by rfl) T.b_isinstance (by decide +kernel) (pa_cons (pv 0) (pa_cons (pe_bltn (v := .ty "str") rfl T.b_str (by decide +kernel) rfl) pa_nil)))))
        (pss_one ps_never)
        pss_nil)
        (pss_cons (ps_set (i := 1) sc_read_tree.nd rfl (.inl rfl) (pe_me (pe_cm (ok_TextReader T) (hr.mono (by first | decide | omega)) (by rfl) (pa_cons (pv 0) pa_nil)) (ok_TextReader_read_keys T) (hr.mono (by first | decide | omega)) (pa_cons pe_int pa_nil)))
        (pss_cons (ps_if (PW.pt (pw_or (pt_not (pt_val (pe_cd (ok_is_tree T) (hr.mono (by first | decide | omega)) (by rfl) (pa_cons (pv 1) pa_nil)))) (pw_or1 (pt_cmpR (ku_ne (K := K) (by rfl) (by exact hr.units)) (pe_cd (ok_text_of T) (hr.mono (by first | decide | omega)) (by rfl) (pa_cons (pv 1) pa_nil)) (pv 0) (by first | exact nomark _ | rfl)))))
        (pss_one ps_never)
        pss_nil)
        (pss_one (ps_ret (pv 1)))))), ?_⟩
    show (_ : TS) _ [some (V.str (sOf t.txtC)), none] H
    leaf_len
    refine r_isi (.ty "str") (.base (.str _)) (kit_ty (r := true) (by decide +kernel)) ?_
    leaf_len
    intro x dx hx hdx hne
    refine ⟨x, dx, t.txtC, rfl, upd_same, rfl, ?_⟩
    rw [upd_upd]
    have f1 : Fr [x] H (upd (upd H dx (.own x)) x (.ins cs.TextReader dx (rdF t.txtC 0))) := (Fr.refl.put0 hdx).put0 hx
    have r1 : RdAt cs (upd (upd H dx (.own x)) x (.ins cs.TextReader dx (rdF t.txtC 0))) x dx t.txtC 0 := upd_same
    generalize upd (upd H dx (.own x)) x (.ins cs.TextReader dx (rdF t.txtC 0)) = H1 at f1 r1 ⊢
    refine r_methAt r1 rfl ?_
    leaf_len
    have hl := ok.len
    have hh := t.ht_le
    have hlen : t.txtC.length ≤ 840 := by
      have := Tr.txt_len (t := t) fun k hk => ok.abs hk
      omega
    refine ⟨x, dx, t.txtC, 0, 0, t, [], rfl, r1, by omega, by rw [List.drop_zero, List.append_nil], trivial, ok, by omega, by omega, fun H2 a f2 s2 r2 => ?_⟩
    have sm2 := fr_same hx (f1.trans f2)
    leaf_len
    refine ⟨a, t.pre, rfl, s2, by omega, fun H3 sm3 => ?_⟩
    rw [isTree_of ok hn]
    leaf_len
    refine ⟨a, t, rfl, sm3.sqT s2, ok, by omega, fun H4 sm4 => ?_⟩
    leaf_len
    refine r_iteN (fun z => (z rfl).elim) (fun _ => ?_)
    leaf_len
    exact q H4 a (sm2.trans (sm3.trans sm4)) (sm4.sqT (sm3.sqT s2))
end

section
variable {P : Program} {w : World} {K : PySem.W.Frag} {mg : Str → Option Value} {base : Heap} {cs : Cs}
/-- the pot of a law at p, of which at most n were drawn unseen -/
def Pot (H : Hp) (p : Addr) (n : Nat) : Prop := ∃ x y z : Int, H p = some (.lst [.int x, .int y, .int z]) ∧ 0 ≤ x ∧ 0 ≤ y ∧ y < 2 ^ 200 ∧ 0 ≤ z ∧ z ≤ n
theorem e10_18 : (10 : Int) ^ (18 : Int).toNat = 1000000000000000000 := by decide +kernel
theorem e10_39 : (10 : Int) ^ (39 : Int).toNat = 1000000000000000000000000000000000000000 := by decide +kernel
theorem e10_42 : (10 : Int) ^ (42 : Int).toNat = 1000000000000000000000000000000000000000000 := by decide +kernel
theorem e10_40 : (10 : Int) ^ (40 : Int).toNat = 10000000000000000000000000000000000000000 := by decide +kernel
theorem pot_small {a b : Int} {i : Int} (h : i = a % b) (hb : 0 < b) (h2 : b ≤ 2 ^ 150) : 0 ≤ i ∧ i < 2 ^ 150 := by
  have h3 := Int.emod_nonneg a (show b ≠ 0 by omega)
  have h4 := Int.emod_lt_of_pos a hb
  omega
theorem none_of {H H' : Hp} {p : Addr} (hs : Same H H') (h : H' p = none) : H p = none := by
  cases e : H p with
  | none => rfl
  | some o => rw [hs p o e] at h; cases h
def spFount (K : PySem.W.Frag) : Sp := fun vs H Q _ => ∃ (a : Addr) (ns : List Int) (k : Int), vs = [.ref a, .int k] ∧ SqL K H a (ns.map V.int) ∧ 0 ≤ k ∧ k ≤ 100 ∧ ∀ H' p, Same H H' → H p = none → Pot H' p 0 → Q (.ref p) H'
theorem ok__law_fount (T : Txt K mg cs) : Df P w K mg base CX0 "_law_fount" ["_law_script", "_law_k"] 1 (spFount K) := T.d__law_fount.df fun f fd F => by
  refine F.ok sc__law_fount (fun vs H Q E h => ?_) (fun cdv A outer s H vs Q E hr h => ?_)
  · obtain ⟨a, ns, k, rfl, _⟩ := h; rfl
  · obtain ⟨a, ns, k, rfl, hS, k0, k1, q⟩ := h
    refine ⟨_, (pss_cons (ps_set (i := 2) sc__law_fount.nd rfl (.inl rfl) pe_int)
        (pss_cons (ps_if (pt_cmpR (ku_lt (K := K) (by rfl) (by exact hr.units0)) (pv 1) (pe_callB (ku_len (K := K) (w := w) (by rfl) (by rfl)) (by rfl) T.b_len (by decide +kernel) (pa_cons (pv 0) pa_nil)) (by first | exact nomark _ | rfl))
        (pss_one (ps_set (i := 2) sc__law_fount.nd rfl (.inl rfl) (pe_ix (kixu (K := K) (by rfl) (by exact hu_of hr)) (pv 0) (pv 1) (fun _ _ => rfl))))
        pss_nil)
        (pss_one (ps_ret (pe_lst (pa_cons (pe_callB (cu_max rfl) (by rfl) T.b_max (by decide +kernel) (pa_cons pe_int (pa_cons (pe_op op_sub (pv 2) (pe_op op_powW pe_int pe_int)) pa_nil))) (pa_cons (pe_op (ku_add (K := K) (by rfl)) (pe_op (ku_mul (K := K) (by rfl)) (pe_op op_mod (pv 2) (pe_op (ku_add (K := K) (by rfl)) (pe_op op_powW pe_int pe_int) pe_int)) pe_int) (pv 1)) (pa_cons pe_int pa_nil)))))))), ?_⟩
    show (_ : TS) _ [some (V.ref a), some (V.int k), none] H
    leaf_len
    rw [List.length_map]
    have last : ∀ v : Int, ∀ H' p, Same H H' → H' p = none → Q (.ref p) (upd H' p (.lst [.int (if v - 1000000000000000000 > 0 then v - 1000000000000000000 else 0), .int (v % (1000000000000000000000000000000000000000 + 3) * 256 + k), .int 0])) := fun v H' p hs h1 => by
      have e1 := Int.emod_nonneg v (show (1000000000000000000000000000000000000000 + 3 : Int) ≠ 0 by decide)
      have e2 := Int.emod_lt_of_pos v (show (0 : Int) < 1000000000000000000000000000000000000000 + 3 by decide)
      refine q _ p (hs.trans (Same.new h1)) (none_of hs h1) ⟨_, _, 0, upd_same, ?_, ?_, ?_, Int.le_refl _, by decide⟩
      · split <;> omega
      · omega
      · omega
    refine r_ite (fun c => ?_) (fun c => ?_)
    · leaf_len
      obtain ⟨i, rfl⟩ := Int.eq_ofNat_of_zero_le k0
      have hi : i < ns.length := by omega
      refine r_ixL (v := .int ns[i]) hS (atI_nat (by rw [List.getElem?_map, List.getElem?_eq_getElem hi]; rfl)) ?_
      leaf_len
      refine r_I (powW_ok (a := 4) (by decide) (by decide) (by decide) (by decide)) ?_
      leaf_len
      rw [e10_18]
      leaf_len
      refine r_I (powW_ok (a := 4) (by decide) (by decide) (by decide) (by decide)) ?_
      rw [e10_39]
      leaf_len
      refine r_I (by decide) ?_
      have e1 := Int.emod_nonneg ns[i] (show (1000000000000000000000000000000000000000 + 3 : Int) ≠ 0 by decide)
      have e2 := Int.emod_lt_of_pos ns[i] (show (0 : Int) < 1000000000000000000000000000000000000000 + 3 by decide)
      leaf_len
      refine r_mulI (m := 200) (n := 9) (by omega) (by decide) (by decide) ?_
      leaf_len
      intro p h1
      exact last ns[i] _ p (Same.refl H) h1
    · leaf_len
      refine r_I (powW_ok (a := 4) (by decide) (by decide) (by decide) (by decide)) ?_
      leaf_len
      rw [e10_18]
      leaf_len
      refine r_I (powW_ok (a := 4) (by decide) (by decide) (by decide) (by decide)) ?_
      rw [e10_39]
      leaf_len
      refine r_I (by decide) ?_
      have e1 := Int.emod_nonneg 0 (show (1000000000000000000000000000000000000000 + 3 : Int) ≠ 0 by decide)
      have e2 := Int.emod_lt_of_pos 0 (show (0 : Int) < 1000000000000000000000000000000000000000 + 3 by decide)
      leaf_len
      refine r_mulI (m := 200) (n := 9) (by omega) (by decide) (by decide) ?_
      leaf_len
      intro p h1
      exact last 0 _ p (Same.refl H) h1
def spSip : Sp := fun vs H Q _ => ∃ p m n, vs = [.ref p, .int m] ∧ 0 < m ∧ m < 2 ^ 200 ∧ Pot H p n ∧ n ≤ 100000 ∧ ∀ H' r, Fr [p] H H' → Pot H' p (n + 1) → 0 ≤ r → r < m → Q (.int r) H'
theorem ok__law_sip (T : Txt K mg cs) : Df P w K mg base CX0 "_law_sip" ["_law_fount_here", "_law_many"] 1 spSip := T.d__law_sip.df fun f fd F => by
  refine F.ok sc__law_sip (fun vs H Q E h => ?_) (fun cdv A outer s H vs Q E hr h => ?_)
  · obtain ⟨p, m, n, rfl, _⟩ := h; rfl
  · obtain ⟨p, m, n, rfl, m0, m1, ⟨x, y, z, hp, x0, y0, y1, z0, z1⟩, hn, q⟩ := h
    refine ⟨_, (pss_cons (ps_if (pt_cmpR op_gt (pe_ix (kixu (K := K) (by rfl) (by exact hu_of hr)) (pv 0) pe_int (fun _ _ => rfl)) pe_int (by first | exact nomark _ | rfl))
        (pss_cons (ps_set (i := 2) sc__law_sip.nd rfl (.inl rfl) (pe_op op_mod (pe_ix (kixu (K := K) (by rfl) (by exact hu_of hr)) (pv 0) pe_int (fun _ _ => rfl)) (pv 1)))
        (pss_cons (ps_asg (pe_op op_fdivW (pe_ix (kixu (K := K) (by rfl) (by exact hu_of hr)) (pv 0) pe_int (fun _ _ => rfl)) (pv 1)) (pg_sub (pv 0) pe_int (su_set (by exact hu_of hr))))
        (pss_one (ps_ret (pv 2)))))
        pss_nil)
        (pss_cons (ps_asg (pe_op (ku_add (K := K) (by rfl)) (pe_ix (kixu (K := K) (by rfl) (by exact hu_of hr)) (pv 0) pe_int (fun _ _ => rfl)) pe_int) (pg_sub (pv 0) pe_int (su_set (by exact hu_of hr))))
        (pss_cons (ps_set (i := 3) sc__law_sip.nd rfl (.inl rfl) (pe_op op_mod (pe_op op_powW (pe_op (ku_add (K := K) (by rfl)) (pe_ix (kixu (K := K) (by rfl) (by exact hu_of hr)) (pv 0) pe_int (fun _ _ => rfl)) (pe_op (ku_mul (K := K) (by rfl)) pe_int (pe_ix (kixu (K := K) (by rfl) (by exact hu_of hr)) (pv 0) pe_int (fun _ _ => rfl)))) pe_int) (pe_op (ku_add (K := K) (by rfl)) (pe_op op_powW pe_int pe_int) pe_int)))
        (pss_cons (ps_set (i := 3) sc__law_sip.nd rfl (.inl rfl) (pe_op op_mod (pe_op op_powW (pe_op (ku_add (K := K) (by rfl)) (pv 3) (pe_op (ku_mul (K := K) (by rfl)) pe_int (pe_ix (kixu (K := K) (by rfl) (by exact hu_of hr)) (pv 0) pe_int (fun _ _ => rfl)))) pe_int) (pe_op (ku_add (K := K) (by rfl)) (pe_op op_powW pe_int pe_int) pe_int)))
        (pss_one (ps_ret (pe_op op_mod (pe_op op_fdivW (pv 3) pe_int) (pv 1)))))))), ?_⟩
    show (_ : TS) _ [some (V.ref p), some (V.int m), none, none] H
    leaf_len
    refine r_ixL (xs := [.int x, .int y, .int z]) (sqL_at hp) (atI_nat (j := 0) rfl) ?_
    leaf_len
    refine r_ite (fun c => ?_) (fun c => ?_)
    · leaf_len
      refine r_ixL (xs := [.int x, .int y, .int z]) (sqL_at hp) (atI_nat (j := 0) rfl) ?_
      leaf_len
      refine r_I m0 ?_
      leaf_len
      refine r_ixL (xs := [.int x, .int y, .int z]) (sqL_at hp) (atI_nat (j := 0) rfl) ?_
      leaf_len
      refine r_I (wide_div (b := 200) m0 (by omega) (by decide) (by decide)) ?_
      leaf_len
      refine r_setL (n := 0) hp rfl ?_
      leaf_len
      exact q _ _ (Fr.refl.put hp (fun h => h) (List.mem_singleton.mpr rfl)) ⟨x / m, y, z, upd_same, Int.ediv_nonneg x0 (by omega), y0, y1, z0, by omega⟩ (Int.emod_nonneg _ (by omega)) (Int.emod_lt_of_pos _ m0)
    · leaf_len
      refine r_ixL (xs := [.int x, .int y, .int z]) (sqL_at hp) (atI_nat (j := 2) rfl) ?_
      leaf_len
      refine r_setL (n := 2) hp rfl ?_
      have hp2 : upd H p (.lst [.int x, .int y, .int (z + 1)]) p = some (.lst [.int x, .int y, .int (z + 1)]) := upd_same
      have f2 : Fr [p] H (upd H p (.lst [.int x, .int y, .int (z + 1)])) := Fr.refl.put hp (fun h => h) (List.mem_singleton.mpr rfl)
      have fin : ∀ r : Int, 0 ≤ r → r < m → Q (.int r) (upd H p (.lst [.int x, .int y, .int (z + 1)])) := fun r r0 r1 => q _ r f2 ⟨x, y, z + 1, upd_same, x0, y0, y1, by omega, by omega⟩ r0 r1
      show tSeq _ _ _ _ (upd H p (.lst [.int x, .int y, .int (z + 1)]))
      generalize upd H p (.lst [.int x, .int y, .int (z + 1)]) = H2 at hp2 f2 fin ⊢
      leaf_len
      refine r_ixL (xs := [.int x, .int y, .int (z + 1)]) (sqL_at hp2) (atI_nat (j := 1) rfl) ?_
      leaf_len
      refine r_ixL (xs := [.int x, .int y, .int (z + 1)]) (sqL_at hp2) (atI_nat (j := 2) rfl) ?_
      leaf_len
      refine r_mulI (m := 27) (n := 18) (by decide) (by omega) (by decide) ?_
      leaf_len
      refine r_I (powW_ok (a := 210) (by omega) (by decide) (by decide) (by decide)) ?_
      leaf_len
      refine r_I (powW_ok (a := 4) (by decide) (by decide) (by decide) (by decide)) ?_
      rw [e10_42]
      leaf_len
      refine r_I (by decide) ?_
      have b1 := pot_small (i := (y + 86028157 * (z + 1)) ^ (3 : Int).toNat % (1000000000000000000000000000000000000000000 + 63)) rfl (by decide) (by decide)
      generalize (y + 86028157 * (z + 1)) ^ (3 : Int).toNat % (1000000000000000000000000000000000000000000 + 63) = v1 at b1 ⊢
      leaf_len
      refine r_ixL (xs := [.int x, .int y, .int (z + 1)]) (sqL_at hp2) (atI_nat (j := 2) rfl) ?_
      leaf_len
      refine r_mulI (m := 27) (n := 18) (by decide) (by omega) (by decide) ?_
      leaf_len
      refine r_I (powW_ok (a := 210) (by omega) (by decide) (by decide) (by decide)) ?_
      leaf_len
      refine r_I (powW_ok (a := 4) (by decide) (by decide) (by decide) (by decide)) ?_
      rw [e10_40]
      leaf_len
      refine r_I (by decide) ?_
      generalize (v1 + 15487477 * (z + 1)) ^ (3 : Int).toNat % (10000000000000000000000000000000000000000 + 121) = v2
      leaf_len
      refine r_I (wide_div (b := 17) (by decide) (by decide) (by decide) (by decide)) ?_
      leaf_len
      refine r_I m0 ?_
      leaf_len
      exact fin _ (Int.emod_nonneg _ (by omega)) (Int.emod_lt_of_pos _ m0)
end

section
variable {P : Program} {w : World} {K : PySem.W.Frag} {mg : Str → Option Value} {base : Heap} {cs : Cs}
theorem Pot.same {H H' : Hp} {p : Addr} {n : Nat} (h : Pot H p n) (e : Same H H') : Pot H' p n := by
  obtain ⟨x, y, z, e1, r⟩ := h
  exact ⟨x, y, z, e _ _ e1, r⟩
theorem Pot.more {H : Hp} {p : Addr} {n m : Nat} (h : Pot H p n) (e : n ≤ m) : Pot H p m := by
  obtain ⟨x, y, z, e1, a, b, c, d, f⟩ := h
  exact ⟨x, y, z, e1, a, b, c, d, by omega⟩
theorem Pot.put {H : Hp} {p q : Addr} {u : HO} {n : Nat} (h : Pot H p n) (e : p ≠ q) : Pot (upd H q u) p n := by
  obtain ⟨x, y, z, e1, r⟩ := h
  exact ⟨x, y, z, at_ne e e1, r⟩
theorem Fr.other {p q : Addr} {H H' : Hp} {o : HO} (f : Fr [p] H H') (n : q ≠ p) (h : H q = some o) : H' q = some o := f q o h fun m => absurd (List.mem_singleton.mp m) n
theorem perm_erase : ∀ (l : List Int) (j : Nat) (h : j < l.length), (l[j] :: l.eraseIdx j).Perm l
  | x :: l, 0, _ => .refl _
  | x :: l, j + 1, h => by
    have h' : j < l.length := by rw [List.length_cons] at h; omega
    exact (List.Perm.swap x l[j] (l.eraseIdx j)).trans ((perm_erase l j h').cons x)
theorem map_erase {f : Int → V} : ∀ (l : List Int) (j : Nat), (l.map f).eraseIdx j = (l.eraseIdx j).map f
  | [], _ => rfl
  | _ :: _, 0 => rfl
  | x :: l, j + 1 => by
    show f x :: (l.map f).eraseIdx j = f x :: (l.eraseIdx j).map f
    rw [map_erase l j]
theorem r_popAtI {H : Hp} {Q : VK} {l : Addr} {ns : List Int} {j : Nat} (h : H l = some (.lst (ns.map V.int))) (hj : j < ns.length) (hs : ns.length < 1000) (k : Q (.int ns[j]) (upd H l (.lst ((ns.eraseIdx j).map V.int)))) : rPopAt (.ref l) [.int (j : Int)] H Q := by
  refine ⟨l, ns.map V.int, j, j, .int ns[j], rfl, rfl, h, by omega, by omega, seqIndex_of (by omega) (by rw [List.length_map]; omega), by rw [List.getElem?_map, List.getElem?_eq_getElem hj]; rfl, ?_⟩
  rw [map_erase]
  exact k
def spMixed (K : PySem.W.Frag) : Sp := fun vs H Q _ => ∃ (p a : Addr) (ns : List Int) (n : Nat), vs = [.ref p, .ref a] ∧ (SqL K H a (ns.map V.int) ∨ SqT K H a (ns.map V.int)) ∧ ns.length ≤ 100 ∧ Pot H p n ∧ n + ns.length ≤ 100000 ∧
  ∀ H' b (ms : List Int), Fr [p] H H' → Pot H' p (n + ns.length) → H b = none → H' b = some (.lst (ms.map V.int)) → ms.Perm ns → Q (.ref b) H'
theorem ok__law_mixed (T : Txt K mg cs) : Df P w K mg base CX0 "_law_mixed" ["_law_fount_here", "_law_items"] 2 (spMixed K) := T.d__law_mixed.df fun f fd F => by
  refine F.ok sc__law_mixed (fun vs H Q E h => ?_) (fun cdv A outer s H vs Q E hr h => ?_)
  · obtain ⟨p, a, ns, n, rfl, _⟩ := h; rfl
  · obtain ⟨p, a, ns, n, rfl, hS, hl, hp, hn, q⟩ := h
    refine ⟨_, (pss_cons (ps_set (i := 2) sc__law_mixed.nd rfl (.inr rfl) (pe_callTy (ku_list (K := K) (by rfl)) (by rfl) T.b_list (by decide +kernel) (pa_cons (pv 1) pa_nil)))
        (pss_one (ps_ret (pe_lc (own := [("_law_turn", 3)]) rfl sc__law_mixed.nd (pi_range1 (by rfl) T.b_range (pa_cons (pe_callB (ku_len (K := K) (w := w) (by rfl) (by rfl)) (by rfl) T.b_len (by decide +kernel) (pa_cons (pv 2) pa_nil)) pa_nil)) (blkOk_by (N := ["_law_fount_here", "_law_items", "_law_left", "_law_turn"]) (sc := defScope s__law_mixed) (own := [("_law_turn", 3)]) (by decide +kernel)) (fun _ _ _ _ _ => (pg_name (i := 3) sc__law_mixed.nd rfl (.inl rfl))) (fun _ _ _ _ _ => pts_nil) (fun _ _ _ _ _ => (ke_bm (K := K) (by rfl) PySem.F.plainAttrs_list PySem.F.slot_list_pop PySem.F.type_list_pop mt_popAt (pv 2) (pa_cons (pe_cd (ok__law_sip T) (hr.mono (by first | decide | omega)) (by rfl) (pa_cons (pv 0) (pa_cons (pe_callB (ku_len (K := K) (w := w) (by rfl) (by rfl)) (by rfl) T.b_len (by decide +kernel) (pa_cons (pv 2) pa_nil)) pa_nil))) pa_nil))))))), ?_⟩
    show (_ : TS) _ [some (V.ref p), some (V.ref a), none, none] H
    leaf_len
    have st : ∀ R : VK, (∀ l, H l = none → R (.ref l) (upd H l (.lst (ns.map V.int)))) → rList K [.ref a] H R := fun R k => by
      rcases hS with hS | hS
      · exact r_listL hS k
      · exact r_listT hS k
    refine st _ fun L hL => ?_
    have f1 : Same H (upd H L (.lst (ns.map V.int))) := Same.new hL
    have hL1 : upd H L (.lst (ns.map V.int)) L = some (.lst (ns.map V.int)) := upd_same
    generalize upd H L (.lst (ns.map V.int)) = H1 at f1 hL1 ⊢
    leaf_len
    rw [List.length_map]
    refine ⟨_, rfl, by omega, by omega, ?_⟩
    have hp1 : Pot H1 p n := hp.same f1
    have hLp : L ≠ p := fun e => by obtain ⟨x, y, z, e1, _⟩ := hp; rw [← e, hL] at e1; cases e1
    refine c_range (fun A i acc H' => ∃ ms rem : List Int, acc = ms.map V.int ∧ H' L = some (.lst (rem.map V.int)) ∧ (ms ++ rem).Perm ns ∧ ms.length = i ∧ Fr [p] H H' ∧ Pot H' p (n + i) ∧ H A = none ∧ A ≠ L ∧ A ≠ p) (fun A hA => ?_) ?_ ?_
    · have hAL : A ≠ L := fun e => by rw [e, hL1] at hA; cases hA
      have hAp : A ≠ p := fun e => by obtain ⟨x, y, z, e1, _⟩ := hp1; rw [← e, hA] at e1; cases e1
      exact ⟨[], ns, rfl, at_ne hAL.symm hL1, .refl _, rfl, (Fr.same f1).new hA, hp1.same (Same.new hA), none_of f1 hA, hAL, hAp⟩
    · rintro A i acc H' hi hA ⟨ms, rem, rfl, hR, pe, rfl, ff, hq, nA, hAL, hAp⟩
      refine ⟨rfl, ?_⟩
      have hrl : rem.length = ns.length - ms.length := by
        have := pe.length_eq; rw [List.length_append] at this; omega
      leaf_len
      rw [List.length_map]
      refine ⟨p, rem.length, n + ms.length, rfl, by omega, by omega, hq, by omega, fun H2 r f2 hq2 r0 r1 => ?_⟩
      obtain ⟨j, rfl⟩ := Int.eq_ofNat_of_zero_le r0
      have hj : j < rem.length := by omega
      have hA2 := f2.other hAp hA
      have hR2 := f2.other hLp hR
      leaf_len
      refine r_popAtI hR2 hj (by omega) ?_
      have hA3 := at_ne (u := .lst ((rem.eraseIdx j).map V.int)) hAL hA2
      refine compYes hA3 (by rw [List.length_map, sizeLine_eq]; omega) ⟨ms ++ [rem[j]], rem.eraseIdx j, by rw [List.map_append]; rfl, at_ne hAL.symm upd_same, ?_, by rw [List.length_append, List.length_singleton], ((ff.trans f2).put0 hL).put0 nA, ?_, nA, hAL, hAp⟩
      · have := (perm_erase rem j hj).append_left ms
        rw [List.append_assoc]
        exact this.trans pe
      · exact (hq2.put (Ne.symm hLp)).put (Ne.symm hAp)
    · rintro A acc H' hA ⟨ms, rem, rfl, hR, pe, e, ff, hq, nA, hAL, hAp⟩
      have hr : rem = [] := by
        have := pe.length_eq
        rw [List.length_append] at this
        exact List.length_eq_zero_iff.mp (by omega)
      subst hr
      rw [List.append_nil] at pe
      leaf_len
      exact q H' A ms ff (by rw [Int.toNat_natCast] at hq; exact hq) nA hA pe
end

section
variable {P : Program} {w : World} {K : PySem.W.Frag} {mg : Str → Option Value} {base : Heap} {cs : Cs}
/-- the value of a tree in nodes -/
def NodeAt (H : Hp) : Tr → V → Prop
  | .nil, v => v = .non
  | .node l k r, v => ∃ a x y, v = .ref a ∧ H a = some (.tup [.int k, x, y]) ∧ NodeAt H l x ∧ NodeAt H r y
theorem NodeAt.fr {S : List Addr} {H H' : Hp} (f : Fr S H H') : ∀ {t : Tr} {v : V}, NodeAt H t v → NodeAt H' t v
  | .nil, _, h => h
  | .node _ _ _, _, ⟨a, x, y, e, h, h1, h2⟩ => ⟨a, x, y, e, f.tup h, h1.fr f, h2.fr f⟩
theorem NodeAt.same {H H' : Hp} (f : Same H H') {t : Tr} {v : V} (h : NodeAt H t v) : NodeAt H' t v := h.fr (Fr.same (S := []) f)
def spLNode (K : PySem.W.Frag) (n : Nat) : Sp := fun vs H Q _ => ∃ a t, vs = [.ref a] ∧ SqT K H a (t.pre.map V.int) ∧ t.Bst ∧ t.pre.length ≤ 1000 ∧ t.ht < n ∧ ∀ H' v, Same H H' → NodeAt H' t v → Q v H'
theorem ok__law_node_n (T : Txt K mg cs) : ∀ n : Nat, n ≤ 30 → Df P w K mg base CX0 "_law_node" ["_law_keys_here"] n (spLNode K n)
  | 0, _ => T.d__law_node.zero fun vs H Q E h => by obtain ⟨_, _, _, _, _, _, h, _⟩ := h; exact absurd h (Nat.not_lt_zero _)
  | n + 1, hn => T.d__law_node.df fun f fd F => by
    have D_self := ok__law_node_n T n (by omega)
    refine F.ok sc__law_node (fun vs H Q E h => ?_) (fun cdv A outer s H vs Q E hr h => ?_)
    · obtain ⟨a, t, rfl, _⟩ := h; rfl
    · obtain ⟨a, t, rfl, hS, bst, hl, hh, q⟩ := h
      refine ⟨_, (pss_cons (ps_if (pt_cmpR (ku_eq (K := K) (by rfl) (by exact hr.units)) (pv 0) (pe_tup pa_nil) (by first | exact nomark _ | rfl))
        (pss_one (ps_ret pe_non))
        pss_nil)
        (pss_cons (ps_par (i := 1) (j := 2) (by rfl) sc__law_node.nd rfl rfl (by decide) rfl rfl (pa_cons (pe_callTy (ku_tuple (K := K) (by rfl)) (by rfl) T.b_tuple (by decide +kernel) (pa_cons (pe_lc (own := [("_law_key", 3)]) rfl sc__law_node.nd (ki_tup (K := K) (by rfl) (pv 0)) (blkOk_by (N := ["_law_keys_here", "_law_below", "_law_above", "_law_key"]) (sc := defScope s__law_node) (own := [("_law_key", 3)]) (by decide +kernel)) (fun _ _ _ _ _ => (pg_name (i := 3) sc__law_node.nd rfl (.inl rfl))) (fun _ _ _ _ _ => (pts_one (pt_cmpR (ku_lt (K := K) (by rfl) (by exact hr.units0)) (pv 3) (pe_ix (kixu (K := K) (by rfl) (by exact hu_of hr)) (pv 0) pe_int (fun _ _ => rfl)) (by first | exact nomark _ | rfl)))) (fun _ _ _ _ _ => (pv 3))) pa_nil)) (pa_cons (pe_callTy (ku_tuple (K := K) (by rfl)) (by rfl) T.b_tuple (by decide +kernel) (pa_cons (pe_lc (own := [("_law_key", 3)]) rfl sc__law_node.nd (ki_tup (K := K) (by rfl) (pv 0)) (blkOk_by (N := ["_law_keys_here", "_law_below", "_law_above", "_law_key"]) (sc := defScope s__law_node) (own := [("_law_key", 3)]) (by decide +kernel)) (fun _ _ _ _ _ => (pg_name (i := 3) sc__law_node.nd rfl (.inl rfl))) (fun _ _ _ _ _ => (pts_one (pt_cmpR op_gt (pv 3) (pe_ix (kixu (K := K) (by rfl) (by exact hu_of hr)) (pv 0) pe_int (fun _ _ => rfl)) (by first | exact nomark _ | rfl)))) (fun _ _ _ _ _ => (pv 3))) pa_nil)) pa_nil)) (by rfl))
        (pss_one (ps_ret (pe_tup (pa_cons (pe_ix (kixu (K := K) (by rfl) (by exact hu_of hr)) (pv 0) pe_int (fun _ _ => rfl)) (pa_cons (pe_cd D_self (hr.mono (by omega)) (by rfl) (pa_cons (pv 1) pa_nil)) (pa_cons (pe_cd D_self (hr.mono (by omega)) (by rfl) (pa_cons (pv 2) pa_nil)) pa_nil)))))))), ?_⟩
      show (_ : TS) _ [some (V.ref a), none, none, none] H
      leaf_len
      intro e he
      leaf_len
      have hS0 := (Same.new he (o := .tup [])).sqT hS
      refine r_eqTnil (ns := t.pre) hS0 (sqT_at upd_same) ?_
      have sm0 := Same.new he (o := .tup [])
      generalize upd H e (HO.tup []) = H1 at sm0 hS0 ⊢
      rw [Tr.isNil_pre]
      leaf_len
      cases t with
      | nil =>
        refine r_ifT rfl ?_
        leaf_len
        exact q _ _ sm0 rfl
      | node l k r =>
        refine r_ifF rfl ?_
        obtain ⟨b1, b2, b3, b4⟩ := bst
        obtain ⟨f1, f2⟩ := Tr.filt b3 b4
        have eqP : (Tr.node l k r).pre = k :: (l.pre ++ r.pre) := rfl
        have f1 : (Tr.node l k r).pre.filter (fun x => decide (x < k)) = l.pre := by rw [eqP, List.filter_cons_of_neg (by simp)]; exact f1
        have f2 : (Tr.node l k r).pre.filter (fun x => decide (k < x)) = r.pre := by rw [eqP, List.filter_cons_of_neg (by simp)]; exact f2
        have hk1 : SqT K H1 a (V.int k :: (l.pre ++ r.pre).map V.int) := hS0
        have ll : l.pre.length ≤ 1000 ∧ r.pre.length ≤ 1000 := by rw [eqP, List.length_cons, List.length_append] at hl; omega
        have lh : l.ht < n ∧ r.ht < n := by simp only [Tr.ht] at hh; omega
        generalize (Tr.node l k r).pre = ps at f1 f2 hS0 hl
        leaf_len
        refine c_tup (xs := ps.map V.int) (fun D i acc H' => H1 D = none ∧ Same H1 H' ∧ acc = ((ps.take i).filter fun x => decide (x < k)).map V.int) (fun D hD => ⟨hD, Same.new hD, rfl⟩) (fun D i acc H' h => h.2.1.sqT hS0) ?_ ?_
        · rintro D i x acc H' hx hD ⟨h0, hs, rfl⟩
          obtain ⟨y, rfl, hy⟩ := map_get hx
          refine ⟨rfl, ?_⟩
          leaf_len
          refine r_ixT (hs.sqT hk1) (at_zero _ _) ?_
          leaf_len
          refine r_ite (fun c => ?_) (fun c => ?_)
          · leaf_len
            refine compYes hD ?_ ⟨h0, (Fr.put0 (S := []) (Fr.same hs) h0).toSame, ?_⟩
            · rw [List.length_map, sizeLine_eq]
              have := List.length_filter_le (fun x => decide (x < k)) (ps.take i)
              have := List.length_take_le' i ps
              omega
            · rw [take_filter _ _ _ hy, if_pos (decide_eq_true c), List.map_append]; rfl
          · refine compNo hD ⟨h0, hs, ?_⟩
            rw [take_filter _ _ _ hy, if_neg (by simpa using c), List.append_nil]
        · rintro D acc H2 hD ⟨h0, hs, rfl⟩
          rw [List.length_map, List.take_length, f1] at hD
          leaf_len
          refine r_tupleL (sqL_at hD) fun p1 H3 hs3 hp1 => ?_
          have sm3 : Same H1 H3 := hs.trans hs3
          have hk3 := sm3.sqT hk1
          leaf_len
          refine c_tup (xs := ps.map V.int) (fun D i acc H' => H3 D = none ∧ Same H3 H' ∧ acc = ((ps.take i).filter fun x => decide (k < x)).map V.int) (fun D hD => ⟨hD, Same.new hD, rfl⟩) (fun D i acc H' h => h.2.1.sqT (sm3.sqT hS0)) ?_ ?_
          · rintro D i x acc H' hx hD ⟨h0, hs, rfl⟩
            obtain ⟨y, rfl, hy⟩ := map_get hx
            refine ⟨rfl, ?_⟩
            leaf_len
            refine r_ixT (hs.sqT hk3) (at_zero _ _) ?_
            leaf_len
            refine r_ite (fun c => ?_) (fun c => ?_)
            · leaf_len
              refine compYes hD ?_ ⟨h0, (Fr.put0 (S := []) (Fr.same hs) h0).toSame, ?_⟩
              · rw [List.length_map, sizeLine_eq]
                have := List.length_filter_le (fun x => decide (k < x)) (ps.take i)
                have := List.length_take_le' i ps
                omega
              · rw [take_filter _ _ _ hy, if_pos (decide_eq_true c), List.map_append]; rfl
            · refine compNo hD ⟨h0, hs, ?_⟩
              rw [take_filter _ _ _ hy, if_neg (by simpa using c), List.append_nil]
          · rintro D acc H5 hD ⟨h0, hs5, rfl⟩
            rw [List.length_map, List.take_length, f2] at hD
            leaf_len
            refine r_tupleL (sqL_at hD) fun p2 H6 hs6 hp2 => ?_
            have sm36 : Same H3 H6 := hs5.trans hs6
            have hk6 := sm36.sqT hk3
            leaf_len
            refine r_ixT hk6 (at_zero _ _) ?_
            leaf_len
            refine ⟨p1, l, rfl, sm36.sqT hp1, b1, ll.1, lh.1, fun H7 v1 hs7 n1 => ?_⟩
            leaf_len
            refine ⟨p2, r, rfl, hs7.sqT hp2, b2, ll.2, lh.2, fun H8 v2 hs8 n2 => ?_⟩
            leaf_len
            intro d hd
            refine q _ _ (((((sm0.trans sm3).trans sm36).trans hs7).trans hs8).trans (Same.new hd)) ⟨d, v1, v2, rfl, upd_same, (n1.same hs8).same (Same.new hd), n2.same (Same.new hd)⟩
def spLPre (K : PySem.W.Frag) (n : Nat) : Sp := fun vs H Q _ => ∃ v t, vs = [v] ∧ NodeAt H t v ∧ t.pre.length ≤ 1000 ∧ t.ht < n ∧ ∀ H' a, Same H H' → SqT K H' a (t.pre.map V.int) → Q (.ref a) H'
theorem ok__law_preorder_n (T : Txt K mg cs) : ∀ n : Nat, n ≤ 30 → Df P w K mg base CX0 "_law_preorder" ["_law_node_here"] n (spLPre K n)
  | 0, _ => T.d__law_preorder.zero fun vs H Q E h => by obtain ⟨_, _, _, _, _, h, _⟩ := h; exact absurd h (Nat.not_lt_zero _)
  | n + 1, hn => T.d__law_preorder.df fun f fd F => by
    have D_self := ok__law_preorder_n T n (by omega)
    refine F.ok sc__law_preorder (fun vs H Q E h => ?_) (fun cdv A outer s H vs Q E hr h => ?_)
    · obtain ⟨v, t, rfl, _⟩ := h; rfl
    · obtain ⟨v, t, rfl, hv, hl, hh, q⟩ := h
      refine ⟨_, (pss_cons (ps_if (pt_cmpR op_isN (pv 0) pe_non (nomark _))
        (pss_one (ps_ret (pe_tup pa_nil)))
        pss_nil)
        (pss_one (ps_ret (pe_op (ku_add (K := K) (by rfl)) (pe_op (ku_add (K := K) (by rfl)) (pe_tup (pa_cons (pe_ix (kixu (K := K) (by rfl) (by exact hu_of hr)) (pv 0) pe_int (fun _ _ => rfl)) pa_nil)) (pe_cd D_self (hr.mono (by omega)) (by rfl) (pa_cons (pe_ix (kixu (K := K) (by rfl) (by exact hu_of hr)) (pv 0) pe_int (fun _ _ => rfl)) pa_nil))) (pe_cd D_self (hr.mono (by omega)) (by rfl) (pa_cons (pe_ix (kixu (K := K) (by rfl) (by exact hu_of hr)) (pv 0) pe_int (fun _ _ => rfl)) pa_nil)))))), ?_⟩
      show (_ : TS) _ [some v] H
      leaf_len
      cases t with
      | nil =>
        have hv : v = .non := hv
        subst hv
        leaf_len
        intro d hd
        exact q _ d (Same.new hd) (sqT_at upd_same)
      | node l k r =>
        obtain ⟨a, x, y, rfl, ha, nx, ny⟩ := hv
        have ll : l.pre.length + r.pre.length ≤ 999 := by simp only [Tr.pre, List.length_cons, List.length_append] at hl; omega
        have lh : l.ht < n ∧ r.ht < n := by simp only [Tr.ht] at hh; omega
        leaf_len
        refine r_ixT (sqT_at ha) (atI_nat (j := 0) rfl) ?_
        leaf_len
        intro d hd
        have sm1 := Same.new hd (o := .tup [.int k])
        have s1 : SqT K (upd H d (.tup [.int k])) d ([k].map V.int) := sqT_at upd_same
        generalize upd H d (HO.tup [.int k]) = H1 at sm1 s1 ⊢
        leaf_len
        refine r_ixT (sqT_at (sm1 _ _ ha)) (atI_nat (j := 1) rfl) ?_
        leaf_len
        refine ⟨x, l, rfl, nx.same sm1, by omega, lh.1, fun H2 b1 sm2 s2 => ?_⟩
        leaf_len
        refine r_addT (sm2.sqT s1) s2 (by simp only [List.length_map, List.length_cons, List.length_nil, sizeLine_eq]; omega) fun u H3 sm3 s3 => ?_
        have sm13 := (sm1.trans sm2).trans sm3
        rw [← List.map_append] at s3
        leaf_len
        refine r_ixT (sqT_at (sm13 _ _ ha)) (atI_nat (j := 2) rfl) ?_
        leaf_len
        refine ⟨y, r, rfl, ny.same sm13, by omega, lh.2, fun H4 b2 sm4 s4 => ?_⟩
        leaf_len
        refine r_addT (sm4.sqT s3) s4 (by simp only [List.length_map, List.length_append, List.length_cons, List.length_nil, sizeLine_eq]; omega) fun u2 H5 sm5 s5 => ?_
        rw [← List.map_append] at s5
        exact q _ _ ((sm13.trans sm4).trans sm5) (by rw [show (Tr.node l k r).pre = [k] ++ l.pre ++ r.pre by simp [Tr.pre]]; exact s5)
def spLLeaf (n : Nat) : Sp := fun vs H Q _ => ∃ v t k, vs = [v, .int k] ∧ NodeAt H t v ∧ k ∉ t.pre ∧ t.ht < n ∧ ∀ H' u, Same H H' → NodeAt H' (t.ins k) u → Q u H'
theorem ok__law_leaf_n (T : Txt K mg cs) : ∀ n : Nat, n ≤ 30 → Df P w K mg base CX0 "_law_leaf" ["_law_node_here", "_law_key"] n (spLLeaf n)
  | 0, _ => T.d__law_leaf.zero fun vs H Q E h => by obtain ⟨_, _, _, _, _, _, h, _⟩ := h; exact absurd h (Nat.not_lt_zero _)
  | n + 1, hn => T.d__law_leaf.df fun f fd F => by
    have D_self := ok__law_leaf_n T n (by omega)
    refine F.ok sc__law_leaf (fun vs H Q E h => ?_) (fun cdv A outer s H vs Q E hr h => ?_)
    · obtain ⟨v, t, k, rfl, _⟩ := h; rfl
    · obtain ⟨v, t, k, rfl, hv, hk, hh, q⟩ := h
      refine ⟨_, (pss_cons (ps_if (pt_cmpR op_isN (pv 0) pe_non (nomark _))
        (pss_one (ps_ret (pe_tup (pa_cons (pv 1) (pa_cons pe_non (pa_cons pe_non pa_nil))))))
        pss_nil)
        (pss_cons (ps_if (pt_cmpR (ku_lt (K := K) (by rfl) (by exact hr.units0)) (pv 1) (pe_ix (kixu (K := K) (by rfl) (by exact hu_of hr)) (pv 0) pe_int (fun _ _ => rfl)) (by first | exact nomark _ | rfl))
        (pss_one (ps_ret (pe_tup (pa_cons (pe_ix (kixu (K := K) (by rfl) (by exact hu_of hr)) (pv 0) pe_int (fun _ _ => rfl)) (pa_cons (pe_cd D_self (hr.mono (by omega)) (by rfl) (pa_cons (pe_ix (kixu (K := K) (by rfl) (by exact hu_of hr)) (pv 0) pe_int (fun _ _ => rfl)) (pa_cons (pv 1) pa_nil))) (pa_cons (pe_ix (kixu (K := K) (by rfl) (by exact hu_of hr)) (pv 0) pe_int (fun _ _ => rfl)) pa_nil))))))
        pss_nil)
        (pss_one (ps_ret (pe_tup (pa_cons (pe_ix (kixu (K := K) (by rfl) (by exact hu_of hr)) (pv 0) pe_int (fun _ _ => rfl)) (pa_cons (pe_ix (kixu (K := K) (by rfl) (by exact hu_of hr)) (pv 0) pe_int (fun _ _ => rfl)) (pa_cons (pe_cd D_self (hr.mono (by omega)) (by rfl) (pa_cons (pe_ix (kixu (K := K) (by rfl) (by exact hu_of hr)) (pv 0) pe_int (fun _ _ => rfl)) (pa_cons (pv 1) pa_nil))) pa_nil)))))))), ?_⟩
      show (_ : TS) _ [some v, some (V.int k)] H
      leaf_len
      cases t with
      | nil =>
        have hv : v = .non := hv
        subst hv
        leaf_len
        intro d hd
        exact q _ _ (Same.new hd) ⟨d, .non, .non, rfl, upd_same, rfl, rfl⟩
      | node l c r =>
        obtain ⟨a, x, y, rfl, ha, nx, ny⟩ := hv
        have lh : l.ht < n ∧ r.ht < n := by simp only [Tr.ht] at hh; omega
        have hkc : k ≠ c ∧ k ∉ l.pre ∧ k ∉ r.pre := by
          simp only [Tr.pre, List.mem_cons, List.mem_append, not_or] at hk
          exact hk
        leaf_len
        refine r_ixT (sqT_at ha) (atI_nat (j := 0) rfl) ?_
        leaf_len
        refine r_ite (fun c1 => ?_) (fun c1 => ?_)
        · leaf_len
          refine r_ixT (sqT_at ha) (atI_nat (j := 0) rfl) ?_
          leaf_len
          refine r_ixT (sqT_at ha) (atI_nat (j := 1) rfl) ?_
          leaf_len
          refine ⟨x, l, k, rfl, nx, hkc.2.1, lh.1, fun H1 u sm1 n1 => ?_⟩
          leaf_len
          refine r_ixT (sqT_at (sm1 _ _ ha)) (atI_nat (j := 2) rfl) ?_
          leaf_len
          intro d hd
          refine q _ _ (sm1.trans (Same.new hd)) ?_
          unfold Tr.ins
          rw [if_pos c1]
          exact ⟨d, u, y, rfl, upd_same, n1.same (Same.new hd), (ny.same sm1).same (Same.new hd)⟩
        · leaf_len
          refine r_ixT (sqT_at ha) (atI_nat (j := 0) rfl) ?_
          leaf_len
          refine r_ixT (sqT_at ha) (atI_nat (j := 1) rfl) ?_
          leaf_len
          refine r_ixT (sqT_at ha) (atI_nat (j := 2) rfl) ?_
          leaf_len
          refine ⟨y, r, k, rfl, ny, hkc.2.2, lh.2, fun H1 u sm1 n1 => ?_⟩
          leaf_len
          intro d hd
          refine q _ _ (sm1.trans (Same.new hd)) ?_
          unfold Tr.ins
          rw [if_neg c1, if_pos (by omega)]
          exact ⟨d, x, u, rfl, upd_same, (nx.same sm1).same (Same.new hd), n1.same (Same.new hd)⟩
theorem ok__law_node (T : Txt K mg cs) : Df P w K mg base CX0 "_law_node" ["_law_keys_here"] 26 (spLNode K 26) := ok__law_node_n T 26 (by decide)
theorem ok__law_preorder (T : Txt K mg cs) : Df P w K mg base CX0 "_law_preorder" ["_law_node_here"] 26 (spLPre K 26) := ok__law_preorder_n T 26 (by decide)
theorem ok__law_leaf (T : Txt K mg cs) : Df P w K mg base CX0 "_law_leaf" ["_law_node_here", "_law_key"] 26 (spLLeaf 26) := ok__law_leaf_n T 26 (by decide)
end

section
variable {P : Program} {w : World} {K : PySem.W.Frag} {mg : Str → Option Value} {base : Heap} {cs : Cs}
def Asc (ks : List Int) : Prop := ks.Pairwise (· < ·)
def spKeys : Sp := fun vs H Q _ => ∃ (p : Addr) (c n : Nat), vs = [.ref p, .int (c : Int)] ∧ 1 ≤ c ∧ c ≤ 24 ∧ Pot H p n ∧ n ≤ 90000 ∧
  ∀ H' b (ks : List Int), Fr [p] H H' → Pot H' p (n + 100) → H b = none → H' b = some (.lst (ks.map V.int)) → ks.length = c → Asc ks → (∀ k ∈ ks, KeyOk k) → Q (.ref b) H'
theorem asc_snoc {ks : List Int} {x : Int} (h : Asc ks) (hx : ∀ k ∈ ks, k < x) : Asc (ks ++ [x]) := List.pairwise_append.mpr ⟨h, List.pairwise_singleton _ _, fun a ha b hb => by rw [List.mem_singleton.mp hb]; exact hx a ha⟩
theorem e10_30 : (10 : Int) ^ (30 : Int).toNat = 1000000000000000000000000000000 := by decide +kernel
theorem asc_range {g : Nat → Int} {c : Nat} (h : ∀ i j : Nat, i < j → j < c → g i < g j) : Asc ((List.range c).map g) := by
  induction c with
  | zero => exact List.Pairwise.nil
  | succ c ih =>
    rw [List.range_succ, List.map_append]
    exact asc_snoc (ih fun i j hi hj => h i j hi (by omega)) fun k hk => by
      obtain ⟨i, hi, rfl⟩ := List.mem_map.mp hk
      exact h i c (List.mem_range.mp hi) (by omega)
theorem Fr.none {p b : Addr} {H H' : Hp} (f : Fr [p] H H') (n : b ≠ p) (h : H' b = none) : H b = none := by
  cases e : H b with
  | none => rfl
  | some o => rw [f.other n e] at h; cases h
theorem e10_4 : (10 : Int) ^ (4 : Int).toNat = 10000 := by decide +kernel
theorem e10_8 : (10 : Int) ^ (8 : Int).toNat = 100000000 := by decide +kernel
theorem e10_12 : (10 : Int) ^ (12 : Int).toNat = 1000000000000 := by decide +kernel
theorem e10_16 : (10 : Int) ^ (16 : Int).toNat = 10000000000000000 := by decide +kernel
theorem e10_20 : (10 : Int) ^ (20 : Int).toNat = 100000000000000000000 := by decide +kernel
theorem e10_24 : (10 : Int) ^ (24 : Int).toNat = 1000000000000000000000000 := by decide +kernel
theorem e10_28 : (10 : Int) ^ (28 : Int).toNat = 10000000000000000000000000000 := by decide +kernel
theorem wide_at {ra : Int} (h0 : 0 ≤ ra) (h1 : ra < 7) : ∃ v, ([10000, 100000000, 1000000000000, 10000000000000000, 100000000000000000000, 1000000000000000000000000, 10000000000000000000000000000] : List Int)[ra.toNat]? = some v ∧ 0 < v ∧ v ≤ 10000000000000000000000000000 := by
  obtain ⟨j, rfl⟩ := Int.eq_ofNat_of_zero_le h0
  have hj : j < 7 := by omega
  rw [Int.toNat_natCast]
  have : j = 0 ∨ j = 1 ∨ j = 2 ∨ j = 3 ∨ j = 4 ∨ j = 5 ∨ j = 6 := by omega
  rcases this with e | e | e | e | e | e | e <;> subst e <;> exact ⟨_, rfl, by decide, by decide⟩
theorem ok__law_keys (T : Txt K mg cs) : Df P w K mg base CX0 "_law_keys" ["_law_fount_here", "_law_count"] 2 spKeys := T.d__law_keys.df fun f fd F => by
  refine F.ok sc__law_keys (fun vs H Q E h => ?_) (fun cdv A outer s H vs Q E hr h => ?_)
  · obtain ⟨p, c, n, rfl, _⟩ := h; rfl
  · obtain ⟨p, c, n, rfl, c1, c24, hp, hn, q⟩ := h
    refine ⟨_, (pss_cons (ps_asg (pe_tup (pa_cons (pe_cd (ok__law_sip T) (hr.mono (by first | decide | omega)) (by rfl) (pa_cons (pv 0) (pa_cons pe_int pa_nil))) (pa_cons (pe_op op_sub (pe_cd (ok__law_sip T) (hr.mono (by first | decide | omega)) (by rfl) (pa_cons (pv 0) (pa_cons pe_int pa_nil))) pe_int) pa_nil))) (kg_tup (K := K) (by rfl) rfl (pgs_cons (pg_name (i := 2) sc__law_keys.nd rfl (.inl rfl)) (pgs_cons (pg_name (i := 3) sc__law_keys.nd rfl (.inr rfl)) pgs_nil))))
        (pss_cons (ps_if (pt_cmpR (ku_eq (K := K) (by rfl) (by exact hr.units)) (pv 2) pe_int (by first | exact nomark _ | rfl))
        (pss_one (ps_ret (pe_lc (own := [("_law_at", 6)]) rfl sc__law_keys.nd (pi_range1 (by rfl) T.b_range (pa_cons (pv 1) pa_nil)) (blkOk_by (N := ["_law_fount_here", "_law_count", "_law_style", "_law_shift", "_law_wide", "_law_found", "_law_at"]) (sc := defScope s__law_keys) (own := [("_law_at", 6)]) (by decide +kernel)) (fun _ _ _ _ _ => (pg_name (i := 6) sc__law_keys.nd rfl (.inl rfl))) (fun _ _ _ _ _ => pts_nil) (fun _ _ _ _ _ => (pe_op (ku_add (K := K) (by rfl)) (pv 3) (pv 6))))))
        pss_nil)
        (pss_cons (ps_if (pt_cmpR (ku_eq (K := K) (by rfl) (by exact hr.units)) (pv 2) pe_int (by first | exact nomark _ | rfl))
        (pss_one (ps_ret (pe_lc (own := [("_law_at", 6)]) rfl sc__law_keys.nd (pi_range1 (by rfl) T.b_range (pa_cons (pv 1) pa_nil)) (blkOk_by (N := ["_law_fount_here", "_law_count", "_law_style", "_law_shift", "_law_wide", "_law_found", "_law_at"]) (sc := defScope s__law_keys) (own := [("_law_at", 6)]) (by decide +kernel)) (fun _ _ _ _ _ => (pg_name (i := 6) sc__law_keys.nd rfl (.inl rfl))) (fun _ _ _ _ _ => pts_nil) (fun _ _ _ _ _ => (pe_op (ku_mul (K := K) (by rfl)) pe_int (pe_op (ku_add (K := K) (by rfl)) (pv 3) (pv 6)))))))
        pss_nil)
        (pss_cons (ps_if (pt_cmpR (ku_eq (K := K) (by rfl) (by exact hr.units)) (pv 2) pe_int (by first | exact nomark _ | rfl))
        (pss_one (ps_ret (pe_lc (own := [("_law_at", 6)]) rfl sc__law_keys.nd (pi_range1 (by rfl) T.b_range (pa_cons (pv 1) pa_nil)) (blkOk_by (N := ["_law_fount_here", "_law_count", "_law_style", "_law_shift", "_law_wide", "_law_found", "_law_at"]) (sc := defScope s__law_keys) (own := [("_law_at", 6)]) (by decide +kernel)) (fun _ _ _ _ _ => (pg_name (i := 6) sc__law_keys.nd rfl (.inl rfl))) (fun _ _ _ _ _ => pts_nil) (fun _ _ _ _ _ => (pe_op (ku_add (K := K) (by rfl)) (pe_op (ku_add (K := K) (by rfl)) (pe_op op_sub (pe_op op_powW pe_int pe_int) (pv 1)) pe_int) (pv 6))))))
        pss_nil)
        (pss_cons (ps_set (i := 4) sc__law_keys.nd rfl (.inl rfl) (pe_lst (pa_cons (pe_op op_powW pe_int pe_int) (pa_cons (pe_op op_powW pe_int pe_int) (pa_cons (pe_op op_powW pe_int pe_int) (pa_cons (pe_op op_powW pe_int pe_int) (pa_cons (pe_op op_powW pe_int pe_int) (pa_cons (pe_op op_powW pe_int pe_int) (pa_cons (pe_op op_powW pe_int pe_int) pa_nil)))))))))
        (pss_cons (ps_set (i := 5) sc__law_keys.nd rfl (.inl rfl) (pe_lst (pa_cons (pe_op op_sub pe_int (pe_cd (ok__law_sip T) (hr.mono (by first | decide | omega)) (by rfl) (pa_cons (pv 0) (pa_cons (pe_ix (kixu (K := K) (by rfl) (by exact hu_of hr)) (pv 4) (pe_cd (ok__law_sip T) (hr.mono (by first | decide | omega)) (by rfl) (pa_cons (pv 0) (pa_cons pe_int pa_nil))) (fun _ _ => rfl)) pa_nil)))) pa_nil)))
        (pss_cons (ps_if (pt_cmpR (ku_eq (K := K) (by rfl) (by exact hr.units)) (pv 2) pe_int (by first | exact nomark _ | rfl))
        (pss_one (ps_par (i := 4) (j := 5) (by rfl) sc__law_keys.nd rfl rfl (by decide) rfl rfl (pa_cons (pe_lst (pa_cons (pe_op (ku_mul (K := K) (by rfl)) pe_int (pe_op op_powW pe_int pe_int)) pa_nil)) (pa_cons (pe_lst (pa_cons (pe_op (ku_add (K := K) (by rfl)) (pe_op op_sub pe_int (pe_op op_powW pe_int pe_int)) (pe_cd (ok__law_sip T) (hr.mono (by first | decide | omega)) (by rfl) (pa_cons (pv 0) (pa_cons (pe_op op_powW pe_int pe_int) pa_nil)))) pa_nil)) pa_nil)) (by rfl)))
        pss_nil)
        (pss_cons (ps_while PassesOwn.never (pt_cmpR (ku_lt (K := K) (by rfl) (by exact hr.units0)) (pe_callB (ku_len (K := K) (w := w) (by rfl) (by rfl)) (by rfl) T.b_len (by decide +kernel) (pa_cons (pv 5) pa_nil)) (pv 1) (by first | exact nomark _ | rfl))
        (pss_one (ps_expr (ke_bm (K := K) (by rfl) PySem.F.plainAttrs_list PySem.F.slot_list_append PySem.F.type_list_append mt_append (pv 5) (pa_cons (pe_op (ku_add (K := K) (by rfl)) (pe_op (ku_add (K := K) (by rfl)) (pe_ix (kixu (K := K) (by rfl) (by exact hu_of hr)) (pv 5) (pe_un un_neg pe_int) (fun _ _ => rfl)) pe_int) (pe_cd (ok__law_sip T) (hr.mono (by first | decide | omega)) (by rfl) (pa_cons (pv 0) (pa_cons (pe_ix (kixu (K := K) (by rfl) (by exact hu_of hr)) (pv 4) (pe_cd (ok__law_sip T) (hr.mono (by first | decide | omega)) (by rfl) (pa_cons (pv 0) (pa_cons (pe_callB (ku_len (K := K) (w := w) (by rfl) (by rfl)) (by rfl) T.b_len (by decide +kernel) (pa_cons (pv 4) pa_nil)) pa_nil))) (fun _ _ => rfl)) pa_nil)))) pa_nil)))))
        (pss_one (ps_ret (pv 5))))))))))), ?_⟩
    show (_ : TS) _ [some (V.ref p), some (V.int c), none, none, none, none, none] H
    leaf_len
    refine ⟨p, 5, n, rfl, by decide, by decide, hp, by omega, fun H1 st f1 hp1 _ _ => ?_⟩
    leaf_len
    refine ⟨p, 40, n + 1, rfl, by decide, by decide, hp1, by omega, fun H2 r f2 hp2 r0 r1 => ?_⟩
    have f02 := f1.trans f2
    leaf_len
    intro tp htp
    have sm3 := Same.new htp (o := .tup [.int st, .int (r - 20)])
    have s3 : SqT K (upd H2 tp (.tup [.int st, .int (r - 20)])) tp [.int st, .int (r - 20)] := sqT_at upd_same
    have f03 := f02.trans (Fr.same sm3)
    have hp3 := hp2.same sm3
    generalize upd H2 tp (HO.tup [.int st, .int (r - 20)]) = H3 at sm3 s3 f03 hp3 ⊢
    refine r_gTup s3 rfl ?_
    leaf_len
    have nn : ∀ {b : Addr}, H3 b = none → H b = none := fun {b} h => f03.none (fun e => by
      obtain ⟨x, y, z, e1, _⟩ := hp3
      rw [e, e1] at h; cases h) h
    leaf_len
    refine r_ite (fun _ => ?_) (fun _ => ?_)
    · leaf_len
      refine ⟨_, rfl, by omega, by omega, ?_⟩
      refine c_range (fun A i acc H' => H3 A = none ∧ Same H3 H' ∧ acc = ((List.range i).map fun j : Nat => (r - 20 + (j : Int))).map V.int) (fun A hA => ⟨hA, Same.new hA, rfl⟩) ?_ ?_
      · rintro A i acc H' hi hA ⟨nA, hs, rfl⟩
        refine ⟨rfl, ?_⟩
        leaf_len
        refine compYes hA (by rw [List.length_map, List.length_map, List.length_range, sizeLine_eq]; omega) ⟨nA, (Fr.put0 (S := []) (Fr.same hs) nA).toSame, ?_⟩
        rw [List.range_succ, List.map_append, List.map_append, Int.zero_add]; rfl
      · rintro A acc H' hA ⟨nA, hs, rfl⟩
        leaf_len
        rw [Int.toNat_natCast] at hA
        refine q H' A _ (f03.trans (Fr.same hs)) ((hp3.same hs).more (by omega)) (nn nA) hA (by rw [List.length_map, List.length_range]) (asc_range fun i j _ _ => by omega) fun k hk => ?_
        obtain ⟨j, hj, rfl⟩ := List.mem_map.mp hk
        have hj := List.mem_range.mp hj
        unfold KeyOk
        omega
    leaf_len
    leaf_len
    refine r_ite (fun _ => ?_) (fun _ => ?_)
    · leaf_len
      refine ⟨_, rfl, by omega, by omega, ?_⟩
      refine c_range (fun A i acc H' => H3 A = none ∧ Same H3 H' ∧ acc = ((List.range i).map fun j : Nat => (10 * (r - 20 + (j : Int)))).map V.int) (fun A hA => ⟨hA, Same.new hA, rfl⟩) ?_ ?_
      · rintro A i acc H' hi hA ⟨nA, hs, rfl⟩
        refine ⟨rfl, ?_⟩
        leaf_len
        refine r_mulI (m := 5) (n := 10) (by decide) (by omega) (by decide) ?_
        refine compYes hA (by rw [List.length_map, List.length_map, List.length_range, sizeLine_eq]; omega) ⟨nA, (Fr.put0 (S := []) (Fr.same hs) nA).toSame, ?_⟩
        rw [List.range_succ, List.map_append, List.map_append, Int.zero_add]; rfl
      · rintro A acc H' hA ⟨nA, hs, rfl⟩
        leaf_len
        rw [Int.toNat_natCast] at hA
        refine q H' A _ (f03.trans (Fr.same hs)) ((hp3.same hs).more (by omega)) (nn nA) hA (by rw [List.length_map, List.length_range]) (asc_range fun i j _ _ => by omega) fun k hk => ?_
        obtain ⟨j, hj, rfl⟩ := List.mem_map.mp hk
        have hj := List.mem_range.mp hj
        unfold KeyOk
        omega
    leaf_len
    leaf_len
    refine r_ite (fun _ => ?_) (fun _ => ?_)
    · leaf_len
      refine ⟨_, rfl, by omega, by omega, ?_⟩
      refine c_range (fun A i acc H' => H3 A = none ∧ Same H3 H' ∧ acc = ((List.range i).map fun j : Nat => (1000000000000000000000000000000 - (c : Int) + 1 + (j : Int))).map V.int) (fun A hA => ⟨hA, Same.new hA, rfl⟩) ?_ ?_
      · rintro A i acc H' hi hA ⟨nA, hs, rfl⟩
        refine ⟨rfl, ?_⟩
        leaf_len
        refine r_I (powW_ok (a := 4) (by decide) (by decide) (by decide) (by decide)) ?_
        rw [e10_30]
        leaf_len
        refine compYes hA (by rw [List.length_map, List.length_map, List.length_range, sizeLine_eq]; omega) ⟨nA, (Fr.put0 (S := []) (Fr.same hs) nA).toSame, ?_⟩
        rw [List.range_succ, List.map_append, List.map_append, Int.zero_add]; rfl
      · rintro A acc H' hA ⟨nA, hs, rfl⟩
        leaf_len
        rw [Int.toNat_natCast] at hA
        refine q H' A _ (f03.trans (Fr.same hs)) ((hp3.same hs).more (by omega)) (nn nA) hA (by rw [List.length_map, List.length_range]) (asc_range fun i j _ _ => by omega) fun k hk => ?_
        obtain ⟨j, hj, rfl⟩ := List.mem_map.mp hk
        have hj := List.mem_range.mp hj
        unfold KeyOk
        omega
    leaf_len
    refine r_I (powW_ok (a := 4) (by decide) (by decide) (by decide) (by decide)) ?_
    leaf_len
    refine r_I (powW_ok (a := 4) (by decide) (by decide) (by decide) (by decide)) ?_
    leaf_len
    refine r_I (powW_ok (a := 4) (by decide) (by decide) (by decide) (by decide)) ?_
    leaf_len
    refine r_I (powW_ok (a := 4) (by decide) (by decide) (by decide) (by decide)) ?_
    leaf_len
    refine r_I (powW_ok (a := 4) (by decide) (by decide) (by decide) (by decide)) ?_
    leaf_len
    refine r_I (powW_ok (a := 4) (by decide) (by decide) (by decide) (by decide)) ?_
    leaf_len
    refine r_I (powW_ok (a := 4) (by decide) (by decide) (by decide) (by decide)) ?_
    leaf_len
    intro wa hwa
    rw [e10_4, e10_8, e10_12, e10_16, e10_20, e10_24, e10_28]
    have sm4 := Same.new hwa (o := .lst (List.map V.int [10000, 100000000, 1000000000000, 10000000000000000, 100000000000000000000, 1000000000000000000000000, 10000000000000000000000000000]))
    have hw4 : upd H3 wa (.lst (List.map V.int [10000, 100000000, 1000000000000, 10000000000000000, 100000000000000000000, 1000000000000000000000000, 10000000000000000000000000000])) wa = some (.lst (List.map V.int [10000, 100000000, 1000000000000, 10000000000000000, 100000000000000000000, 1000000000000000000000000, 10000000000000000000000000000])) := upd_same
    show tSeq _ _ _ _ (upd H3 wa (.lst (List.map V.int [10000, 100000000, 1000000000000, 10000000000000000, 100000000000000000000, 1000000000000000000000000, 10000000000000000000000000000])))
    have f04 := f03.trans (Fr.same sm4)
    have hp4 := hp3.same sm4
    generalize upd H3 wa (HO.lst (List.map V.int [10000, 100000000, 1000000000000, 10000000000000000, 100000000000000000000, 1000000000000000000000000, 10000000000000000000000000000])) = H4 at sm4 hw4 f04 hp4 ⊢
    leaf_len
    refine ⟨p, 7, _, rfl, by decide, by decide, hp4, by omega, fun H5 ra f5 hp5 ra0 ra1 => ?_⟩
    leaf_len
    have nwp : wa ≠ p := fun e => by obtain ⟨x, y, z, e1, _⟩ := hp3; rw [← e, hwa] at e1; cases e1
    have hw5 := f5.other nwp hw4
    obtain ⟨v, hv, v0, v1⟩ := wide_at ra0 ra1
    refine r_ixL (v := .int v) (sqL_at hw5) (by
      have e : ra = ((ra.toNat : Nat) : Int) := by omega
      rw [e]
      exact atI_nat (by rw [List.getElem?_map, hv]; rfl)) ?_
    leaf_len
    refine ⟨p, v, _, rfl, v0, by omega, hp5, by omega, fun H5b v f5b hp5b v0' v1' => ?_⟩
    have hw5b := f5b.other nwp hw5
    leaf_len
    intro fa hfa
    have sm6 := Same.new hfa (o := .lst (List.map V.int [0 - v]))
    have hf6 : upd H5b fa (.lst (List.map V.int [0 - v])) fa = some (.lst (List.map V.int [0 - v])) := upd_same
    show tSeq _ _ _ _ (upd H5b fa (.lst (List.map V.int [0 - v])))
    have f06 := ((f04.trans f5).trans f5b).trans (Fr.same sm6)
    have hw6 := sm6 _ _ hw5b
    have hp6 := hp5b.same sm6
    have nwf : wa ≠ fa := fun e => by rw [← e, hw5b] at hfa; cases hfa
    have nFH : H fa = none := ((f04.trans f5).trans f5b).none (fun e => by obtain ⟨x, y, z, e1, _⟩ := hp5b; rw [← e, hfa] at e1; cases e1) hfa
    generalize upd H5b fa (HO.lst (List.map V.int [0 - v])) = H6 at sm6 hf6 f06 hw6 hp6 ⊢
    leaf_len
    refine r_ite (fun _ => ?_) (fun _ => ?_)
    · leaf_len
      refine r_I (powW_ok (a := 4) (by decide) (by decide) (by decide) (by decide)) ?_
      leaf_len
      rw [e10_28]
      refine r_mulI (m := 5) (n := 100) (by decide) (by decide) (by decide) ?_
      leaf_len
      intro wb hwb
      have smw := Same.new hwb (o := .lst (List.map V.int [80000000000000000000000000000]))
      have hw7 : upd H6 wb (.lst (List.map V.int [80000000000000000000000000000])) wb = some (.lst (List.map V.int [80000000000000000000000000000])) := upd_same
      have f07 := f06.trans (Fr.same smw)
      have hp7 := hp6.same smw
      show tCons _ _ _ (upd H6 wb (.lst (List.map V.int [80000000000000000000000000000]))) _
      generalize upd H6 wb (HO.lst (List.map V.int [80000000000000000000000000000])) = H7 at smw hw7 f07 hp7 ⊢
      leaf_len
      refine r_I (powW_ok (a := 4) (by decide) (by decide) (by decide) (by decide)) ?_
      rw [e10_30]
      leaf_len
      refine r_I (powW_ok (a := 4) (by decide) (by decide) (by decide) (by decide)) ?_
      rw [e10_28]
      leaf_len
      have nbp : wb ≠ p := fun e => by obtain ⟨x, y, z, e1, _⟩ := hp6; rw [← e, hwb] at e1; cases e1
      refine ⟨p, 10000000000000000000000000000, _, rfl, by decide, by decide, hp7, by omega, fun H8 u f8 hp8 u0 u1 => ?_⟩
      leaf_len
      have hw8 := f8.other nbp hw7
      intro fb hfb
      have sm9 := Same.new hfb (o := .lst (List.map V.int [0 - 1000000000000000000000000000000 + u]))
      have hf9 : upd H8 fb (.lst (List.map V.int [0 - 1000000000000000000000000000000 + u])) fb = some (.lst (List.map V.int [0 - 1000000000000000000000000000000 + u])) := upd_same
      have f09 := (f07.trans f8).trans (Fr.same sm9)
      have hw9 := sm9 _ _ hw8
      have hp9 := hp8.same sm9
      have nwb : wb ≠ fb := fun e => by rw [← e, hw8] at hfb; cases hfb
      have nFH : H fb = none := (f07.trans f8).none (fun e => by obtain ⟨x, y, z, e1, _⟩ := hp8; rw [← e, hfb] at e1; cases e1) hfb
      have e9 : upd H8 fb (.lst [V.int (0 - 1000000000000000000000000000000 + u)]) = upd H8 fb (.lst (List.map V.int [0 - 1000000000000000000000000000000 + u])) := rfl
      rw [e9]
      generalize upd H8 fb (HO.lst (List.map V.int [0 - 1000000000000000000000000000000 + u])) = H9 at sm9 hf9 f09 hw9 hp9 ⊢
      leaf_len
      have nfp : fb ≠ p := fun e => by obtain ⟨x, y, z, e1, _⟩ := hp9; rw [← e, hf9] at e1; cases e1
      have nwp : wb ≠ p := fun e => by obtain ⟨x, y, z, e1, _⟩ := hp9; rw [← e, hw9] at e1; cases e1
      have nfw : wb ≠ fb := nwb
      refine r_while (fun m σ H' => ∃ (ks : List Int) (z : Int), m = c - (ks.length + 1) ∧ ks.length + 1 ≤ c ∧ σ = [some (.ref p), some (.int c), some (.int st), some (.int (r - 20)), some (.ref wb), some (.ref fb), none] ∧ Fr [p] H H' ∧ Pot H' p (n + 5 + 2 * ks.length) ∧
        H' fb = some (.lst ((ks ++ [z]).map V.int)) ∧ H' wb = some (.lst (List.map V.int [80000000000000000000000000000])) ∧ Asc (ks ++ [z]) ∧ (∀ k ∈ ks, -1000000000000000000000000000000 ≤ k ∧ k < z) ∧ -1000000000000000000000000000000 ≤ z ∧ z ≤ -990000000000000000000000000000 + (ks.length : Int) * 80000000000000000000000000000) (c - 1) ⟨[], (0 - 1000000000000000000000000000000 + u), rfl, c1, rfl, f09, hp9.more (by omega), hf9, hw9, List.pairwise_singleton _ _, (fun _ h => nomatch h), by omega, by rw [List.length_nil]; omega⟩ ?_
      rintro m σ H' ⟨ks, z, rfl, hc, rfl, ff, hq, hF, hW, has, hks, hz0, hz1⟩
      leaf_len
      rw [List.length_map, List.length_append, List.length_singleton]
      refine r_ite (fun cc => ?_) (fun cc => ?_)
      · refine r_whileIn ?_
        leaf_len
        refine r_ixL (v := .int z) (sqL_at hF) (by rw [List.map_append]; exact atI_last _ _) ?_
        leaf_len
        refine ⟨p, 1, _, rfl, by decide, by decide, hq, by omega, fun Ha ra fa' hqa ra0 ra1 => ?_⟩
        leaf_len
        have hWa := fa'.other nwp hW
        have hFa := fa'.other nfp hF
        obtain ⟨v, hv, v0, v1⟩ : ∃ v, ([80000000000000000000000000000] : List Int)[ra.toNat]? = some v ∧ 0 < v ∧ v ≤ 80000000000000000000000000000 := ⟨_, by rw [show ra.toNat = 0 by omega]; rfl, by decide, by decide⟩
        refine r_ixL (v := .int v) (sqL_at hWa) (by
          have e : ra = ((ra.toNat : Nat) : Int) := by omega
          rw [e]
          exact atI_nat (by rw [List.getElem?_map, hv]; rfl)) ?_
        leaf_len
        refine ⟨p, v, _, rfl, v0, by omega, hqa, by omega, fun Hb rb fb' hqb rb0 rb1 => ?_⟩
        leaf_len
        have hWb := fb'.other nwp hWa
        have hFb := fb'.other nfp hFa
        refine r_appL hFb (by rw [List.length_map, List.length_append, List.length_singleton, sizeLine_eq]; omega) ?_
        refine ⟨c - (ks.length + 2), by omega, ks ++ [z], z + 1 + rb, by rw [List.length_append, List.length_singleton], by rw [List.length_append, List.length_singleton]; omega, rfl, ((ff.trans fa').trans fb').put0 nFH, (hqb.put (Ne.symm nfp)).more (by rw [List.length_append, List.length_singleton]; omega), by rw [List.map_append (l₂ := [z + 1 + rb])]; exact upd_same, at_ne nfw hWb, ?_, ?_, by omega, by rw [List.length_append, List.length_singleton]; omega⟩
        · refine asc_snoc has fun k hk => ?_
          rcases List.mem_append.mp hk with hk | hk
          · have := (hks k hk).2; omega
          · rw [List.mem_singleton.mp hk]; omega
        · intro k hk
          rcases List.mem_append.mp hk with hk | hk
          · have := hks k hk; omega
          · rw [List.mem_singleton.mp hk]; omega
      · leaf_len
        refine q H' fb (ks ++ [z]) ff (hq.more (by omega)) nFH hF (by rw [List.length_append, List.length_singleton]; omega) has fun k hk => ?_
        unfold KeyOk
        rcases List.mem_append.mp hk with hk | hk
        · have := hks k hk; omega
        · rw [List.mem_singleton.mp hk]; omega
    · leaf_len
      have nfp : fa ≠ p := fun e => by obtain ⟨x, y, z, e1, _⟩ := hp6; rw [← e, hf6] at e1; cases e1
      have nwp : wa ≠ p := fun e => by obtain ⟨x, y, z, e1, _⟩ := hp6; rw [← e, hw6] at e1; cases e1
      have nfw : wa ≠ fa := nwf
      refine r_while (fun m σ H' => ∃ (ks : List Int) (z : Int), m = c - (ks.length + 1) ∧ ks.length + 1 ≤ c ∧ σ = [some (.ref p), some (.int c), some (.int st), some (.int (r - 20)), some (.ref wa), some (.ref fa), none] ∧ Fr [p] H H' ∧ Pot H' p (n + 5 + 2 * ks.length) ∧
        H' fa = some (.lst ((ks ++ [z]).map V.int)) ∧ H' wa = some (.lst (List.map V.int [10000, 100000000, 1000000000000, 10000000000000000, 100000000000000000000, 1000000000000000000000000, 10000000000000000000000000000])) ∧ Asc (ks ++ [z]) ∧ (∀ k ∈ ks, -10000000000000000000000000000 ≤ k ∧ k < z) ∧ -10000000000000000000000000000 ≤ z ∧ z ≤ 0 + (ks.length : Int) * 10000000000000000000000000000) (c - 1) ⟨[], (0 - v), rfl, c1, rfl, f06, hp6.more (by omega), hf6, hw6, List.pairwise_singleton _ _, (fun _ h => nomatch h), by omega, by rw [List.length_nil]; omega⟩ ?_
      rintro m σ H' ⟨ks, z, rfl, hc, rfl, ff, hq, hF, hW, has, hks, hz0, hz1⟩
      leaf_len
      rw [List.length_map, List.length_append, List.length_singleton]
      refine r_ite (fun cc => ?_) (fun cc => ?_)
      · refine r_whileIn ?_
        leaf_len
        refine r_ixL (v := .int z) (sqL_at hF) (by rw [List.map_append]; exact atI_last _ _) ?_
        leaf_len
        refine ⟨p, 7, _, rfl, by decide, by decide, hq, by omega, fun Ha ra fa' hqa ra0 ra1 => ?_⟩
        leaf_len
        have hWa := fa'.other nwp hW
        have hFa := fa'.other nfp hF
        obtain ⟨v, hv, v0, v1⟩ : ∃ v, ([10000, 100000000, 1000000000000, 10000000000000000, 100000000000000000000, 1000000000000000000000000, 10000000000000000000000000000] : List Int)[ra.toNat]? = some v ∧ 0 < v ∧ v ≤ 10000000000000000000000000000 := wide_at ra0 ra1
        refine r_ixL (v := .int v) (sqL_at hWa) (by
          have e : ra = ((ra.toNat : Nat) : Int) := by omega
          rw [e]
          exact atI_nat (by rw [List.getElem?_map, hv]; rfl)) ?_
        leaf_len
        refine ⟨p, v, _, rfl, v0, by omega, hqa, by omega, fun Hb rb fb' hqb rb0 rb1 => ?_⟩
        leaf_len
        have hWb := fb'.other nwp hWa
        have hFb := fb'.other nfp hFa
        refine r_appL hFb (by rw [List.length_map, List.length_append, List.length_singleton, sizeLine_eq]; omega) ?_
        refine ⟨c - (ks.length + 2), by omega, ks ++ [z], z + 1 + rb, by rw [List.length_append, List.length_singleton], by rw [List.length_append, List.length_singleton]; omega, rfl, ((ff.trans fa').trans fb').put0 nFH, (hqb.put (Ne.symm nfp)).more (by rw [List.length_append, List.length_singleton]; omega), by rw [List.map_append (l₂ := [z + 1 + rb])]; exact upd_same, at_ne nfw hWb, ?_, ?_, by omega, by rw [List.length_append, List.length_singleton]; omega⟩
        · refine asc_snoc has fun k hk => ?_
          rcases List.mem_append.mp hk with hk | hk
          · have := (hks k hk).2; omega
          · rw [List.mem_singleton.mp hk]; omega
        · intro k hk
          rcases List.mem_append.mp hk with hk | hk
          · have := hks k hk; omega
          · rw [List.mem_singleton.mp hk]; omega
      · leaf_len
        refine q H' fa (ks ++ [z]) ff (hq.more (by omega)) nFH hF (by rw [List.length_append, List.length_singleton]; omega) has fun k hk => ?_
        unfold KeyOk
        rcases List.mem_append.mp hk with hk | hk
        · have := hks k hk; omega
        · rw [List.mem_singleton.mp hk]; omega
end

/-! xs[lo:hi:k] of a list -/
def stepIx (n : Nat) (lo hi : Option Int) (st : Int) : List Nat := sliceRange (sliceBounds lo hi (some st) n).1 (sliceBounds lo hi (some st) n).2.1 (sliceBounds lo hi (some st) n).2.2
def pickIx {α : Type} (xs : List α) (is : List Nat) : List α := is.filterMap (xs[·]?)
theorem paired_get {α β : Type} {F : α → β → Prop} : ∀ {l : List α} {m : List β}, Paired F l m → ∀ i : Nat, (l[i]? = none ∧ m[i]? = none) ∨ ∃ a b, l[i]? = some a ∧ m[i]? = some b ∧ F a b
  | _, _, .nil, i => .inl ⟨rfl, rfl⟩
  | _, _, .cons h _, 0 => .inr ⟨_, _, rfl, rfl, h⟩
  | _, _, .cons _ t, i + 1 => paired_get t i
theorem paired_pick {α β : Type} {F : α → β → Prop} {l : List α} {m : List β} (h : Paired F l m) : ∀ is : List Nat, Paired F (pickIx l is) (pickIx m is)
  | [] => .nil
  | i :: is => by
    unfold pickIx
    rcases paired_get h i with ⟨e1, e2⟩ | ⟨a, b, e1, e2, f⟩
    · rw [List.filterMap_cons_none e1, List.filterMap_cons_none e2]; exact paired_pick h is
    · rw [List.filterMap_cons_some e1, List.filterMap_cons_some e2]; exact .cons f (paired_pick h is)
def tStepL (K : PySem.W.Frag) (te : TE) (tl th : TO) (st : Int) : TE := fun σ H Q => te σ H fun x H1 => tl σ H1 fun lo H2 => th σ H2 fun hi H3 => ∃ a xs, x = .ref a ∧ SqL K H3 a xs ∧ ∀ p, H3 p = none → Q (.ref p) (upd H3 p (.lst (pickIx xs (stepIx xs.length lo hi st))))
theorem pe_stepL {X : Cx} {K : PySem.W.Frag} {e : Expr} {te : TE} {lo hi : Option Expr} {tl th : TO} {st : Int} {k : Nat} {p1 p3 pos : Pos} (hK : X.K = K) (he : PE X e te) (hl : PO X lo tl) (hu : PO X hi th) (h0 : st ≠ 0) {ops : Value → Value → List Value} (hs : ∀ v w, subscripted (.Slice lo hi (some (.Constant (.int st) k p1)) p3) false v w = operate (ops v w) (getItem v w)) :
    PE X (.Subscript e (.Slice lo hi (some (.Constant (.int st) k p1)) p3) pos) (tStepL K te tl th st) := by
  subst hK
  refine ⟨fun pins s σ H Q I h => ?_⟩
  refine Subscript_ (thn (he.run pins s σ H _ I h) fun v s1 ⟨x, H1, I1, r1, q1⟩ => ?_)
  have hst : PO X (some (.Constant (.int st) k p1)) (tPart (tC (.int st))) := po_some pe_int
  refine wpAny_Slice (thn (hl.run pins s1 σ H1 _ I1 q1) fun vl s2 ⟨l, H2, I2, pl, q2⟩ => thn (hu.run pins s2 σ H2 _ I2 q2) fun vu s3 ⟨u, H3, I3, pu, q3⟩ => ?_)
  refine thn (hst.run pins s3 σ H3 (fun o H4 => o = some st ∧ H4 = H3) I3 ⟨st, rfl, rfl, rfl⟩) fun vs s4 ⟨o, H4, I4, ps, eo, e4⟩ => ?_
  subst eo e4
  obtain ⟨a, xs, ex, hx, q⟩ := q3
  subst ex
  cases r1
  have I5 : Inv X pins σ H4 { s4 with heap := s4.heap.push { cls := .type "slice", data := .fields #[vl, vu, vs] } } := I4.kept (t' := s4.toks) fun b ob q => Heap.get?_push_of_some _ q
  obtain ⟨its, r, ht, hz⟩ := I5.list hx
  have hlen := r.length
  show wpAny (model X.prog X.w) X.A (subscriptTail e (.Slice lo hi (some (.Constant (.int st) k p1)) p3) (.ref a) (.ref s4.heap.objs.size)) (EP X pins σ Q) X.xe { s4 with heap := s4.heap.push { cls := .type "slice", data := .fields #[vl, vu, vs] } }
  refine tail_any (ops := ops (.ref a) (.ref s4.heap.objs.size)) ht.isList.typeIs (PySem.slot_list_getitem.lookup) ?_ (hs _ _)
  refine wpAny_getItem_list_slice ht.isList (Heap.IsSliceOf.new _ vl vu vs) pl pu ps (fun z => h0 (Option.some.inj z)) ?_ (by rw [List.size_toArray]; omega)
  have e1 : slicePick its.toArray l u (some st) = (pickIx its (stepIx xs.length l u st)).toArray := by
    unfold slicePick pickIx stepIx
    rw [List.size_toArray, hlen]
    simp only [List.getElem?_toArray]
  have rp := paired_pick r (stepIx xs.length l u st)
  have lz : (pickIx xs (stepIx xs.length l u st)).length ≤ xs.length := by
    have := slicePick_size_le its.toArray l u (some st)
    rw [e1, List.size_toArray, List.size_toArray] at this
    rw [rp.length]
    have e : its.length = xs.length := hlen.symm
    omega
  rw [e1]
  refine ⟨.ref _, _, I5.laid (t' := s4.toks) (o := .lst (pickIx xs (stepIx xs.length l u st))) (fun b ob q => Heap.get?_push_of_some _ q) (Nat.le_refl _) ?_, rfl, q _ (I5.hok.fresh (Nat.le_refl _))⟩
  exact ⟨Nat.le_trans lz hz, _, 0, rp, Heap.get?_push_size _ rfl⟩
theorem pick_range {α : Type} (xs : List α) : pickIx xs (List.range xs.length) = xs := by
  unfold pickIx
  induction xs with
  | nil => rfl
  | cons x xs ih =>
    rw [List.length_cons, List.range_succ_eq_map, List.filterMap_cons_some (f := fun i => (x :: xs)[i]?) (b := x) rfl, List.filterMap_map]
    exact congrArg (x :: ·) ih
theorem step_perm : ∀ n < 25, (stepIx n none none 2 ++ stepIx n (some 1) none 2).Perm (List.range n) := by decide +kernel
theorem pick_perm {α : Type} (xs : List α) (h : xs.length < 25) : (pickIx xs (stepIx xs.length none none 2) ++ pickIx xs (stepIx xs.length (some 1) none 2)).Perm xs := by
  have h1 := (step_perm xs.length h).filterMap (xs[·]?)
  rw [List.filterMap_append] at h1
  have h2 := pick_range xs
  unfold pickIx at h2 ⊢
  rw [h2] at h1
  exact h1
theorem pick_map {f : Int → V} (xs : List Int) (is : List Nat) : pickIx (xs.map f) is = (pickIx xs is).map f := by
  unfold pickIx
  induction is with
  | nil => rfl
  | cons i is ih =>
    cases e : xs[i]? with
    | none => rw [List.filterMap_cons_none (by rw [List.getElem?_map, e]; rfl), List.filterMap_cons_none e, ih]
    | some x => rw [List.filterMap_cons_some (b := f x) (by rw [List.getElem?_map, e]; rfl), List.filterMap_cons_some e, ih]; rfl
section
variable {P : Program} {w : World} {K : PySem.W.Frag} {mg : Str → Option Value} {base : Heap} {cs : Cs}
theorem not_in_take : ∀ {l : List Int} {i : Nat} {x : Int}, l.Nodup → l[i]? = some x → x ∉ l.take i
  | [], _, _, _, h => nomatch h
  | y :: l, 0, x, _, _ => fun m => nomatch m
  | y :: l, i + 1, x, hn, h => by
    obtain ⟨h1, h2⟩ := List.nodup_cons.mp hn
    intro m
    rcases List.mem_cons.mp (show x ∈ y :: l.take i from m) with e | m
    · exact h1 (e ▸ List.mem_of_getElem? (show l[i]? = some x from h))
    · exact not_in_take h2 h m
theorem asc_nodup {ks : List Int} (h : Asc ks) : ks.Nodup := h.imp fun {a b} h e => by omega
theorem build_take {ms : List Int} {i : Nat} {x : Int} (h : ms[i]? = some x) : Tr.build .nil (ms.take (i + 1)) = Tr.ins x (Tr.build .nil (ms.take i)) := by
  rw [List.take_add_one, h, Tr.build_append]; rfl
theorem build_len {ms : List Int} : (Tr.build .nil ms).pre.length ≤ ms.length :=
  nodup_le (Tr.pre_nodup (Tr.bst_build (show Tr.Bst .nil from trivial))) fun k hk => (Tr.mem_build.mp hk).elim id fun z => nomatch z
theorem build_ok {ms : List Int} (h1 : 1 ≤ ms.length) (h2 : ms.length ≤ 24) (hk : ∀ k ∈ ms, KeyOk k) : TOk (Tr.build .nil ms) ∧ Tr.build .nil ms ≠ .nil := by
  refine ⟨⟨Tr.bst_build (show Tr.Bst .nil from trivial), Nat.le_trans build_len h2, fun k hm => hk k ((Tr.mem_build.mp hm).elim id fun z => nomatch z)⟩, fun e => ?_⟩
  cases ms with
  | nil => exact absurd h1 (by decide)
  | cons x l =>
    have : x ∈ (Tr.build .nil (x :: l)).pre := Tr.mem_build.mpr (.inl List.mem_cons_self)
    rw [e] at this
    cases this
theorem r_revL {te : TE} {σ : L2.St} {H : Hp} {Q : VK} (k : te σ H fun x H1 => ∃ a xs, x = .ref a ∧ SqL K H1 a xs ∧ ∀ p, H1 p = none → Q (.ref p) (upd H1 p (.lst xs.reverse))) : tRevL K te σ H Q := k
theorem r_stepL {te : TE} {tl th : TO} {st : Int} {σ : L2.St} {H : Hp} {Q : VK} (k : te σ H fun x H1 => tl σ H1 fun lo H2 => th σ H2 fun hi H3 => ∃ a xs, x = .ref a ∧ SqL K H3 a xs ∧ ∀ p, H3 p = none → Q (.ref p) (upd H3 p (.lst (pickIx xs (stepIx xs.length lo hi st))))) : tStepL K te tl th st σ H Q := k
theorem cutV_from (l : List V) (i : Nat) : cutV l (some (i : Int)) none = l.drop i := by
  unfold cutV
  rw [HT.sIx_nat, HT.sIx_none]
  by_cases h : i ≤ l.length
  · rw [Nat.min_eq_left h, List.take_of_length_le (by rw [List.length_drop]; omega)]
  · rw [Nat.min_eq_right (by omega), List.drop_length, List.drop_eq_nil_of_le (by omega)]
    simp
theorem cutV_to (l : List V) (j : Nat) : cutV l none (some (j : Int)) = l.take j := by
  unfold cutV
  rw [HT.sIx_none, HT.sIx_nat, List.drop_zero, Nat.sub_zero]
  by_cases h2 : j ≤ l.length
  · rw [Nat.min_eq_left h2]
  · rw [Nat.min_eq_right (by omega), List.take_of_length_le (by omega), List.take_of_length_le (by omega)]
/-- at a: a list of the keys ks in some order -/
def Mixed (H : Hp) (ks : List Int) (a : Addr) : Prop := ∃ ms : List Int, H a = some (.lst (ms.map V.int)) ∧ ms.Perm ks
theorem Mixed.same {H H' : Hp} {ks : List Int} {a : Addr} (h : Mixed H ks a) (e : Same H H') : Mixed H' ks a := ⟨h.choose, e _ _ h.choose_spec.1, h.choose_spec.2⟩
def spGrown (K : PySem.W.Frag) : Sp := fun vs H Q _ => ∃ (p : Addr) (m n : Nat), vs = [.ref p, .int (m : Int)] ∧ 1 ≤ m ∧ m ≤ 24 ∧ Pot H p n ∧ n ≤ 80000 ∧
  ∀ H' b t, Fr [p] H H' → Pot H' p (n + 200) → SqT K H' b (t.pre.map V.int) → TOk t → t ≠ .nil → t.pre.length ≤ m → Q (.ref b) H'
theorem ok__law_grown (T : Txt K mg cs) : Df P w K mg base CX0 "_law_grown" ["_law_fount_here", "_law_most"] 30 (spGrown K) := T.d__law_grown.df fun f fd F => by
  refine F.ok sc__law_grown (fun vs H Q E h => ?_) (fun cdv A outer s H vs Q E hr h => ?_)
  · obtain ⟨p, c, n, rfl, _⟩ := h; rfl
  · obtain ⟨p, c, n, rfl, c1, c24, hp, hn, q⟩ := h
    refine ⟨_, (pss_cons (ps_set (i := 2) sc__law_grown.nd rfl (.inl rfl) (pe_ix (kixu (K := K) (by rfl) (by exact hu_of hr)) (pe_lst (pa_cons (pe_op (ku_add (K := K) (by rfl)) pe_int (pe_cd (ok__law_sip T) (hr.mono (by first | decide | omega)) (by rfl) (pa_cons (pv 0) (pa_cons (pv 1) pa_nil)))) (pa_cons (pv 1) (pa_cons (pe_op (ku_add (K := K) (by rfl)) pe_int (pe_cd (ok__law_sip T) (hr.mono (by first | decide | omega)) (by rfl) (pa_cons (pv 0) (pa_cons (pe_callB (cu_min rfl) (by rfl) T.b_min (by decide +kernel) (pa_cons (pv 1) (pa_cons pe_int pa_nil))) pa_nil)))) pa_nil)))) (pe_cd (ok__law_sip T) (hr.mono (by first | decide | omega)) (by rfl) (pa_cons (pv 0) (pa_cons pe_int pa_nil))) (fun _ _ => rfl)))
        (pss_cons (ps_set (i := 3) sc__law_grown.nd rfl (.inl rfl) (pe_cd (ok__law_keys T) (hr.mono (by first | decide | omega)) (by rfl) (pa_cons (pv 0) (pa_cons (pv 2) pa_nil))))
        (pss_cons (ps_set (i := 4) sc__law_grown.nd rfl (.inl rfl) (pe_cd (ok__law_sip T) (hr.mono (by first | decide | omega)) (by rfl) (pa_cons (pv 0) (pa_cons pe_int pa_nil))))
        (pss_cons (ps_set (i := 5) sc__law_grown.nd rfl (.inl rfl) (pe_lst (pa_cons (pv 3) (pa_cons (pe_revL (pv 3)) (pa_cons (pe_op (ku_add (K := K) (by rfl)) (pe_stepL (K := K) (by rfl) (pv 3) po_none po_none (by decide) (ops := fun v w => [v, w]) (fun _ _ => by with_unfolding_all rfl)) (pe_revL (pe_stepL (K := K) (by rfl) (pv 3) (po_some pe_int) po_none (by decide) (ops := fun v w => [v, w]) (fun _ _ => by with_unfolding_all rfl)))) pa_nil)))))
        (pss_cons (ps_expr (ke_bm (K := K) (by rfl) PySem.F.plainAttrs_list PySem.F.slot_list_append PySem.F.type_list_append mt_append (pv 5) (pa_cons (pe_op (ku_add (K := K) (by rfl)) (pe_slice (ksu (K := K) (by rfl)) (pv 3) (po_some (pe_op op_fdivW (pv 2) pe_int)) po_none) (pe_revL (pe_slice (ksu (K := K) (by rfl)) (pv 3) po_none (po_some (pe_op op_fdivW (pv 2) pe_int))))) pa_nil)))
        (pss_cons (ps_set (i := 6) sc__law_grown.nd rfl (.inl rfl) pe_non)
        (pss_cons (ps_for PassesOwn.never rfl (ki_list (K := K) (by rfl) (pe_ifExp (pt_cmpR (ku_lt (K := K) (by rfl) (by exact hr.units0)) (pv 4) pe_int (by first | exact nomark _ | rfl)) (pe_ix (kixu (K := K) (by rfl) (by exact hu_of hr)) (pv 5) (pv 4) (fun _ _ => rfl)) (pe_cd (ok__law_mixed T) (hr.mono (by first | decide | omega)) (by rfl) (pa_cons (pv 0) (pa_cons (pv 3) pa_nil))))) (pg_name (i := 7) sc__law_grown.nd rfl (.inl rfl))
        (pss_one (ps_set (i := 6) sc__law_grown.nd rfl (.inl rfl) (pe_cd (ok__law_leaf T) (hr.mono (by first | decide | omega)) (by rfl) (pa_cons (pv 6) (pa_cons (pv 7) pa_nil))))))
        (pss_one (ps_ret (pe_cd (ok__law_preorder T) (hr.mono (by first | decide | omega)) (by rfl) (pa_cons (pv 6) pa_nil))))))))))), ?_⟩
    show (_ : TS) _ [some (V.ref p), some (V.int c), none, none, none, none, none, none] H
    leaf_len
    refine ⟨p, c, n, rfl, by omega, by omega, hp, by omega, fun H1 r1 f1 hp1 r10 r11 => ?_⟩
    leaf_len
    refine ⟨p, _, n + 1, rfl, ?_, ?_, hp1, by omega, fun H2 r2 f2 hp2 r20 r21 => ?_⟩
    · split <;> omega
    · split <;> omega
    have r22 : r2 < (c : Int) := by split at r21 <;> omega
    clear r21
    leaf_len
    intro la hla
    have hL : upd H2 la (.lst [.int (1 + r1), .int c, .int (1 + r2)]) la = some (.lst (List.map V.int [1 + r1, (c : Int), 1 + r2])) := upd_same
    have f03 := (f1.trans f2).new hla (o := .lst [.int (1 + r1), .int c, .int (1 + r2)])
    have hp3 := hp2.same (Same.new hla (o := .lst [.int (1 + r1), .int c, .int (1 + r2)]))
    have nlp : la ≠ p := fun e => by obtain ⟨x, y, z, e1, _⟩ := hp2; rw [← e, hla] at e1; cases e1
    generalize upd H2 la (HO.lst [.int (1 + r1), .int c, .int (1 + r2)]) = H3 at hL f03 hp3 ⊢
    leaf_len
    refine ⟨p, 3, n + 2, rfl, by decide, by decide, hp3, by omega, fun H4 r3 f4 hp4 r30 r31 => ?_⟩
    have hL4 := f4.other nlp hL
    obtain ⟨sz, hsz, sz1, sz2⟩ : ∃ sz : Nat, ([1 + r1, (c : Int), 1 + r2] : List Int)[r3.toNat]? = some (sz : Int) ∧ 1 ≤ sz ∧ sz ≤ c := by
      obtain ⟨j, rfl⟩ := Int.eq_ofNat_of_zero_le r30
      rw [Int.toNat_natCast]
      have : j = 0 ∨ j = 1 ∨ j = 2 := by omega
      rcases this with e | e | e <;> subst e
      · exact ⟨(1 + r1).toNat, by rw [Int.toNat_of_nonneg (by omega)]; rfl, by omega, by omega⟩
      · exact ⟨c, rfl, c1, Nat.le_refl _⟩
      · exact ⟨(1 + r2).toNat, by rw [Int.toNat_of_nonneg (by omega)]; rfl, by omega, by omega⟩
    leaf_len
    refine r_ixL (v := .int sz) (sqL_at hL4) (by
      have e : r3 = ((r3.toNat : Nat) : Int) := by omega
      rw [e]
      exact atI_nat (by rw [List.getElem?_map, hsz]; rfl)) ?_
    leaf_len
    refine ⟨p, sz, n + 3, rfl, sz1, by omega, hp4, by omega, fun H5 kb ks f5 hp5 nkb hkb hkl has hko => ?_⟩
    have nkp : kb ≠ p := fun e => by obtain ⟨x, y, z, e1, _⟩ := hp4; rw [← e, ] at e1; exact absurd e1 (by rw [e, ← e, nkb]; exact fun z => nomatch z)
    have f05 := (f03.trans f4).trans f5
    leaf_len
    refine ⟨p, 5, n + 103, rfl, by decide, by decide, hp5, by omega, fun H6 way f6 hp6 w0 w1 => ?_⟩
    have hkb6 := f6.other nkp hkb
    have f06 := f05.trans f6
    leaf_len
    refine r_revL ?_
    leaf_len
    refine ⟨kb, ks.map V.int, rfl, sqL_at hkb6, fun a1 ha1 => ?_⟩
    have s7 := Same.new ha1 (o := .lst (ks.map V.int).reverse)
    have m1 : Mixed (upd H6 a1 (.lst (ks.map V.int).reverse)) ks a1 := ⟨ks.reverse, by rw [List.map_reverse]; exact upd_same, List.reverse_perm ks⟩
    generalize upd H6 a1 (HO.lst (ks.map V.int).reverse) = H7 at s7 m1 ⊢
    leaf_len
    refine r_stepL ?_
    leaf_len
    have hkl2 : ks.length < 25 := by omega
    refine ⟨kb, ks.map V.int, rfl, sqL_at (s7 _ _ hkb6), fun a2 ha2 => ?_⟩
    rw [List.length_map, pick_map]
    have s8 := Same.new ha2 (o := .lst ((pickIx ks (stepIx ks.length none none 2)).map V.int))
    have g2 : upd H7 a2 (.lst ((pickIx ks (stepIx ks.length none none 2)).map V.int)) a2 = some (.lst ((pickIx ks (stepIx ks.length none none 2)).map V.int)) := upd_same
    generalize upd H7 a2 (HO.lst ((pickIx ks (stepIx ks.length none none 2)).map V.int)) = H8 at s8 g2 ⊢
    leaf_len
    refine r_revL ?_
    refine r_stepL ?_
    leaf_len
    refine ⟨kb, ks.map V.int, rfl, sqL_at (s8 _ _ (s7 _ _ hkb6)), fun a3 ha3 => ?_⟩
    rw [List.length_map, pick_map]
    have s9 := Same.new ha3 (o := .lst ((pickIx ks (stepIx ks.length (some 1) none 2)).map V.int))
    have g3 : upd H8 a3 (.lst ((pickIx ks (stepIx ks.length (some 1) none 2)).map V.int)) a3 = some (.lst ((pickIx ks (stepIx ks.length (some 1) none 2)).map V.int)) := upd_same
    generalize upd H8 a3 (HO.lst ((pickIx ks (stepIx ks.length (some 1) none 2)).map V.int)) = H9 at s9 g3 ⊢
    refine ⟨a3, _, rfl, sqL_at g3, fun a4 ha4 => ?_⟩
    rw [← List.map_reverse]
    have s10 := Same.new ha4 (o := .lst ((pickIx ks (stepIx ks.length (some 1) none 2)).reverse.map V.int))
    have g4 : upd H9 a4 (.lst ((pickIx ks (stepIx ks.length (some 1) none 2)).reverse.map V.int)) a4 = some (.lst ((pickIx ks (stepIx ks.length (some 1) none 2)).reverse.map V.int)) := upd_same
    generalize upd H9 a4 (HO.lst ((pickIx ks (stepIx ks.length (some 1) none 2)).reverse.map V.int)) = H10 at s10 g4 ⊢
    have pe5 : (pickIx ks (stepIx ks.length none none 2) ++ (pickIx ks (stepIx ks.length (some 1) none 2)).reverse).Perm ks := ((List.reverse_perm _).append_left _).trans (pick_perm ks hkl2)
    have pl5 := pe5.length_eq
    rw [List.length_append] at pl5
    refine r_addL (s10 _ _ (s9 _ _ g2)) g4 (by rw [List.length_map, List.length_map, sizeLine_eq]; omega) fun a5 ha5 => ?_
    rw [← List.map_append]
    have s11 := Same.new ha5 (o := .lst ((pickIx ks (stepIx ks.length none none 2) ++ (pickIx ks (stepIx ks.length (some 1) none 2)).reverse).map V.int))
    have m5 : Mixed (upd H10 a5 (.lst ((pickIx ks (stepIx ks.length none none 2) ++ (pickIx ks (stepIx ks.length (some 1) none 2)).reverse).map V.int))) ks a5 := ⟨_, upd_same, pe5⟩
    generalize upd H10 a5 (HO.lst ((pickIx ks (stepIx ks.length none none 2) ++ (pickIx ks (stepIx ks.length (some 1) none 2)).reverse).map V.int)) = H11 at s11 m5 ⊢
    have sm11 : Same H7 H11 := (((s8.trans s9).trans s10).trans s11)
    have m1 := m1.same sm11
    have g11 := sm11 _ _ (s7 _ _ hkb6)
    have f11 := f06.trans (Fr.same (s7.trans sm11))
    have hp11 := (hp6.same (s7.trans sm11))
    have nk0 := g11
    have m1k := m1
    have m5k := m5
    clear sm11 g4 g3 g2 ha5 ha4 ha3 ha2 s8 s9 s10 s11
    leaf_len
    intro sb hsb
    have f12 := f11.new hsb (o := .lst [.ref kb, .ref a1, .ref a5])
    have s12 := Same.new hsb (o := .lst [.ref kb, .ref a1, .ref a5])
    have n0 : kb ≠ sb := fun e => by rw [← e, nk0] at hsb; cases hsb
    have n1 : a1 ≠ sb := fun e => by rw [← e, m1k.choose_spec.1] at hsb; cases hsb
    have n5 : a5 ≠ sb := fun e => by rw [← e, m5k.choose_spec.1] at hsb; cases hsb
    have nsb : H sb = none := f11.none (fun e => by obtain ⟨x, y, z, e1, _⟩ := hp11; rw [← e, hsb] at e1; cases e1) hsb
    have nsp : sb ≠ p := fun e => by obtain ⟨x, y, z, e1, _⟩ := hp11; rw [← e, hsb] at e1; cases e1
    have g12 : upd H11 sb (.lst [.ref kb, .ref a1, .ref a5]) sb = some (.lst [.ref kb, .ref a1, .ref a5]) := upd_same
    have k12 := s12 _ _ g11
    have hp12 := hp11.same s12
    have m1 := m1.same s12
    have m5 := m5.same s12
    generalize upd H11 sb (HO.lst [.ref kb, .ref a1, .ref a5]) = H12 at f12 s12 g12 k12 hp12 m1 m5 ⊢
    leaf_len
    refine r_I (wide_div (b := 3) (by decide) (by decide) (by decide) (by decide)) ?_
    rw [show (sz : Int) / 2 = ((sz / 2 : Nat) : Int) by omega]
    leaf_len
    refine r_slL (sqL_at k12) fun a6 ha6 => ?_
    rw [cutV_from, ← List.map_drop]
    have s13 := Same.new ha6 (o := .lst ((ks.drop (sz / 2)).map V.int))
    have g13 : upd H12 a6 (.lst ((ks.drop (sz / 2)).map V.int)) a6 = some (.lst ((ks.drop (sz / 2)).map V.int)) := upd_same
    generalize upd H12 a6 (HO.lst ((ks.drop (sz / 2)).map V.int)) = H13 at s13 g13 ⊢
    leaf_len
    refine r_revL ?_
    leaf_len
    refine r_I (wide_div (b := 3) (by decide) (by decide) (by decide) (by decide)) ?_
    rw [show (sz : Int) / 2 = ((sz / 2 : Nat) : Int) by omega]
    leaf_len
    refine r_slL (sqL_at (s13 _ _ k12)) fun a7 ha7 => ?_
    rw [cutV_to, ← List.map_take]
    have s14 := Same.new ha7 (o := .lst ((ks.take (sz / 2)).map V.int))
    have g14 : upd H13 a7 (.lst ((ks.take (sz / 2)).map V.int)) a7 = some (.lst ((ks.take (sz / 2)).map V.int)) := upd_same
    generalize upd H13 a7 (HO.lst ((ks.take (sz / 2)).map V.int)) = H14 at s14 g14 ⊢
    refine ⟨a7, _, rfl, sqL_at g14, fun a8 ha8 => ?_⟩
    rw [← List.map_reverse]
    have s15 := Same.new ha8 (o := .lst ((ks.take (sz / 2)).reverse.map V.int))
    have g15 : upd H14 a8 (.lst ((ks.take (sz / 2)).reverse.map V.int)) a8 = some (.lst ((ks.take (sz / 2)).reverse.map V.int)) := upd_same
    generalize upd H14 a8 (HO.lst ((ks.take (sz / 2)).reverse.map V.int)) = H15 at s15 g15 ⊢
    have pe6 : (ks.drop (sz / 2) ++ (ks.take (sz / 2)).reverse).Perm ks := by
      refine ((List.reverse_perm _).append_left _).trans ?_
      have := List.perm_append_comm (l₁ := ks.drop (sz / 2)) (l₂ := ks.take (sz / 2))
      rwa [List.take_append_drop] at this
    have pl6 := pe6.length_eq
    rw [List.length_append] at pl6
    refine r_addL (s15 _ _ (s14 _ _ g13)) g15 (by rw [List.length_map, List.length_map, sizeLine_eq]; omega) fun a9 ha9 => ?_
    rw [← List.map_append]
    have n9 : a9 ≠ sb := fun e => by rw [e, s15 _ _ (s14 _ _ (s13 _ _ g12))] at ha9; cases ha9
    have s16 := Same.new ha9 (o := .lst ((ks.drop (sz / 2) ++ (ks.take (sz / 2)).reverse).map V.int))
    have m9 : Mixed (upd H15 a9 (.lst ((ks.drop (sz / 2) ++ (ks.take (sz / 2)).reverse).map V.int))) ks a9 := ⟨_, upd_same, pe6⟩
    generalize upd H15 a9 (HO.lst ((ks.drop (sz / 2) ++ (ks.take (sz / 2)).reverse).map V.int)) = H16 at s16 m9 ⊢
    have sm16 : Same H12 H16 := (((s13.trans s14).trans s15).trans s16)
    have m1 := m1.same sm16
    have m5 := m5.same sm16
    have k16 := sm16 _ _ k12
    have g16 := sm16 _ _ g12
    have f16 := f12.trans (Fr.same sm16)
    have hp16 := hp12.same sm16
    clear s13 s14 s15 s16 sm16 g13 g14 g15 ha6 ha7 ha8 ha9
    leaf_len
    have s17 : ∀ b o, b ≠ sb → H16 b = some o → upd H16 sb (.lst [.ref kb, .ref a1, .ref a5, .ref a9]) b = some o := fun b o n e => at_ne n e
    have g17 : upd H16 sb (.lst [.ref kb, .ref a1, .ref a5, .ref a9]) sb = some (.lst [.ref kb, .ref a1, .ref a5, .ref a9]) := upd_same
    have f17 := f16.put0 (u := .lst [.ref kb, .ref a1, .ref a5, .ref a9]) nsb
    have hp17 := hp16.put (u := .lst [.ref kb, .ref a1, .ref a5, .ref a9]) (Ne.symm nsp)
    have all4 : ∀ j : Nat, j < 4 → ∃ x, ([.ref kb, .ref a1, .ref a5, .ref a9] : List V)[j]? = some (.ref x) ∧ Mixed (upd H16 sb (.lst [.ref kb, .ref a1, .ref a5, .ref a9])) ks x := fun j hj => by
      have : j = 0 ∨ j = 1 ∨ j = 2 ∨ j = 3 := by omega
      rcases this with e | e | e | e <;> subst e
      · exact ⟨kb, rfl, ks, s17 _ _ n0 k16, .refl _⟩
      · exact ⟨a1, rfl, m1.choose, s17 _ _ n1 m1.choose_spec.1, m1.choose_spec.2⟩
      · exact ⟨a5, rfl, m5.choose, s17 _ _ n5 m5.choose_spec.1, m5.choose_spec.2⟩
      · exact ⟨a9, rfl, m9.choose, s17 _ _ n9 m9.choose_spec.1, m9.choose_spec.2⟩
    have k17 := s17 _ _ n0 k16
    clear m1 m5 m9 s17 g16 k16
    rw [show ([V.ref kb, V.ref a1, V.ref a5] ++ [V.ref a9] : List V) = [.ref kb, .ref a1, .ref a5, .ref a9] from rfl]
    generalize upd H16 sb (HO.lst [.ref kb, .ref a1, .ref a5, .ref a9]) = H17 at all4 g17 f17 hp17 k17 ⊢
    refine r_ite (fun cw => ?_) (fun cw => ?_)
    · leaf_len
      obtain ⟨j, rfl⟩ := Int.eq_ofNat_of_zero_le w0
      obtain ⟨x, hxj, ms, hx, mp⟩ := all4 j (by omega)
      refine r_ixL (v := .ref x) (sqL_at g17) (atI_nat hxj) ?_
      have mnd : ms.Nodup := mp.nodup_iff.mpr (asc_nodup has)
      have ml : ms.length = sz := mp.length_eq.trans hkl
      have mok : ∀ k ∈ ms, KeyOk k := fun k hk => hko k (mp.mem_iff.mp hk)
      leaf_len
      refine l_list (xs := ms.map V.int) (fun i σ H' => ∃ v κ, σ = [some (.ref p), some (.int c), some (.int sz), some (.ref kb), some (.int j), some (.ref sb), some v, κ] ∧ Same H17 H' ∧ NodeAt H' (Tr.build .nil (ms.take i)) v) ⟨.non, none, rfl, Same.refl _, rfl⟩ ?_ ?_ ?_
      · rintro i σ H' _ ⟨v, κ, _, hs, _⟩
        exact sqL_at (hs _ _ hx)
      · rintro i y σ H' hy ⟨v, κ, rfl, hs, nv⟩
        obtain ⟨k, rfl, hk⟩ := map_get hy
        leaf_len
        refine ⟨v, Tr.build .nil (ms.take i), k, rfl, nv, fun hm => ?_, ?_, fun H2 u hs2 nu => ?_⟩
        · exact not_in_take mnd hk ((Tr.mem_build.mp hm).elim id fun z => nomatch z)
        · have h1 := Tr.ht_le (Tr.build .nil (ms.take i))
          have h2 := build_len (ms := ms.take i)
          have h3 := List.length_take_le' i ms
          omega
        · leaf_len
          exact ⟨u, _, rfl, hs.trans hs2, by rw [build_take hk]; exact nu⟩
      · rintro σ H' ⟨v, κ, rfl, hs, nv⟩
        rw [List.length_map, List.take_length] at nv
        have h1 := Tr.ht_le (Tr.build .nil ms)
        have h2 := build_len (ms := ms)
        leaf_len
        refine ⟨v, _, rfl, nv, by omega, by omega, fun H2 a hs2 ha => ?_⟩
        obtain ⟨tok, tne⟩ := build_ok (ms := ms) (by omega) (by omega) mok
        exact q H2 a _ (f17.trans (Fr.same (hs.trans hs2))) (((hp17).same (hs.trans hs2)).more (by omega)) ha tok tne (by omega)
    · leaf_len
      refine ⟨p, kb, ks, _, rfl, .inl (sqL_at k17), by omega, hp17, by omega, fun H18 x ms f18 hp18 nx hx mp => ?_⟩
      have mnd : ms.Nodup := mp.nodup_iff.mpr (asc_nodup has)
      have ml : ms.length = sz := mp.length_eq.trans hkl
      have mok : ∀ k ∈ ms, KeyOk k := fun k hk => hko k (mp.mem_iff.mp hk)
      leaf_len
      refine l_list (xs := ms.map V.int) (fun i σ H' => ∃ v κ, σ = [some (.ref p), some (.int c), some (.int sz), some (.ref kb), some (.int way), some (.ref sb), some v, κ] ∧ Same H18 H' ∧ NodeAt H' (Tr.build .nil (ms.take i)) v) ⟨.non, none, rfl, Same.refl _, rfl⟩ ?_ ?_ ?_
      · rintro i σ H' _ ⟨v, κ, _, hs, _⟩
        exact sqL_at (hs _ _ hx)
      · rintro i y σ H' hy ⟨v, κ, rfl, hs, nv⟩
        obtain ⟨k, rfl, hk⟩ := map_get hy
        leaf_len
        refine ⟨v, Tr.build .nil (ms.take i), k, rfl, nv, fun hm => ?_, ?_, fun H2 u hs2 nu => ?_⟩
        · exact not_in_take mnd hk ((Tr.mem_build.mp hm).elim id fun z => nomatch z)
        · have h1 := Tr.ht_le (Tr.build .nil (ms.take i))
          have h2 := build_len (ms := ms.take i)
          have h3 := List.length_take_le' i ms
          omega
        · leaf_len
          exact ⟨u, _, rfl, hs.trans hs2, by rw [build_take hk]; exact nu⟩
      · rintro σ H' ⟨v, κ, rfl, hs, nv⟩
        rw [List.length_map, List.take_length] at nv
        have h1 := Tr.ht_le (Tr.build .nil ms)
        have h2 := build_len (ms := ms)
        leaf_len
        refine ⟨v, _, rfl, nv, by omega, by omega, fun H2 a hs2 ha => ?_⟩
        obtain ⟨tok, tne⟩ := build_ok (ms := ms) (by omega) (by omega) mok
        exact q H2 a _ ((f17.trans f18).trans (Fr.same (hs.trans hs2))) (((hp18).same (hs.trans hs2)).more (by omega)) ha tok tne (by omega)
end

theorem ku_isiT {X : Cx} {K : PySem.W.Frag} (h : X.K = K) : CallR X (.builtin "isinstance") (rIsiT K) := by subst h; exact call_isiT
section
variable {P : Program} {w : World} {K : PySem.W.Frag} {mg : Str → Option Value} {base : Heap} {cs : Cs}
theorem NodeAt.nil_iff {H : Hp} {t : Tr} {v : V} (h : NodeAt H t v) : decide (v = .non) = t.isNil := by
  cases t with
  | nil => rw [show v = .non from h]; rfl
  | node l k r => obtain ⟨a, x, y, rfl, _⟩ := h; rfl
def spLText (n : Nat) : Sp := fun vs H Q _ => ∃ v t, vs = [v] ∧ NodeAt H t v ∧ TOk t ∧ t.ht < n ∧ Q (.str (sOf t.txtC)) H
theorem ok__law_text_n (T : Txt K mg cs) : ∀ n : Nat, n ≤ 30 → Df P w K mg base CX0 "_law_text" ["_law_node_here"] n (spLText n)
  | 0, _ => T.d__law_text.zero fun vs H Q E h => by obtain ⟨_, _, _, _, _, h, _⟩ := h; exact absurd h (Nat.not_lt_zero _)
  | n + 1, hn => T.d__law_text.df fun f fd F => by
    have D_self := ok__law_text_n T n (by omega)
    refine F.ok sc__law_text (fun vs H Q E h => ?_) (fun cdv A outer s H vs Q E hr h => ?_)
    · obtain ⟨v, t, rfl, _⟩ := h; rfl
    · obtain ⟨v, t, rfl, hv, ok, hh, q⟩ := h
      refine ⟨_, (pss_cons (ps_if (pt_cmpR op_isN (pv 0) pe_non (nomark _))
        (pss_one (ps_ret pe_str))
        pss_nil)
        (pss_cons (ps_if (PW.pt (pw_and (pt_cmpR op_isN (pe_ix (kixu (K := K) (by rfl) (by exact hu_of hr)) (pv 0) pe_int (fun _ _ => rfl)) pe_non (nomark _)) (pw_and1 (pt_cmpR op_isN (pe_ix (kixu (K := K) (by rfl) (by exact hu_of hr)) (pv 0) pe_int (fun _ _ => rfl)) pe_non (nomark _)))))
        (pss_one (ps_ret (pe_callTy call_str_int (by rfl) T.b_str (by decide +kernel) (pa_cons (pe_ix (kixu (K := K) (by rfl) (by exact hu_of hr)) (pv 0) pe_int (fun _ _ => rfl)) pa_nil))))
        pss_nil)
        (pss_one (ps_ret (pe_op (ku_add (K := K) (by rfl)) (pe_op (ku_add (K := K) (by rfl)) (pe_op (ku_add (K := K) (by rfl)) (pe_op (ku_add (K := K) (by rfl)) (pe_op (ku_add (K := K) (by rfl)) (pe_callTy call_str_int (by rfl) T.b_str (by decide +kernel) (pa_cons (pe_ix (kixu (K := K) (by rfl) (by exact hu_of hr)) (pv 0) pe_int (fun _ _ => rfl)) pa_nil)) pe_str) (pe_cd D_self (hr.mono (by omega)) (by rfl) (pa_cons (pe_ix (kixu (K := K) (by rfl) (by exact hu_of hr)) (pv 0) pe_int (fun _ _ => rfl)) pa_nil))) pe_str) (pe_cd D_self (hr.mono (by omega)) (by rfl) (pa_cons (pe_ix (kixu (K := K) (by rfl) (by exact hu_of hr)) (pv 0) pe_int (fun _ _ => rfl)) pa_nil))) pe_str))))), ?_⟩
      show (_ : TS) _ [some v] H
      leaf_len
      cases t with
      | nil =>
        have hv : v = .non := hv
        subst hv
        leaf_len
        exact q
      | node l k r =>
        obtain ⟨a, x, y, rfl, ha, nx, ny⟩ := hv
        have lh : l.ht < n ∧ r.ht < n := by simp only [Tr.ht] at hh; omega
        have hkk := ok.abs (k := k) (by simp [Tr.pre])
        have z1 := numC_len hkk
        have z2 := Tr.txt_len (t := l) fun x hx => ok.abs (by simp [Tr.pre, hx])
        have z3 := Tr.txt_len (t := r) fun x hx => ok.abs (by simp [Tr.pre, hx])
        have hlen := ok.len
        simp only [Tr.pre, List.length_cons, List.length_append] at hlen
        leaf_len
        refine r_ixT (sqT_at ha) (atI_nat (j := 1) rfl) ?_
        leaf_len
        rw [nx.nil_iff]
        refine r_bool (fun c1 => ?_) (fun c1 => ?_)
        · leaf_len
          refine r_ixT (sqT_at ha) (atI_nat (j := 2) rfl) ?_
          leaf_len
          rw [ny.nil_iff]
          refine r_bool (fun c2 => ?_) (fun c2 => ?_)
          · leaf_len
            refine r_ixT (sqT_at ha) (atI_nat (j := 0) rfl) ?_
            leaf_len
            refine ⟨k, rfl, log_key hkk, ?_⟩
            have et : (Tr.node l k r).txtC = numC k := if_pos (by rw [c1, c2]; rfl)
            rw [numC_str, ← et]
            exact q
          · have cc : (l.isNil && r.isNil) = false := by rw [c1, c2]; rfl
            leaf_len
            refine r_ixT (sqT_at ha) (atI_nat (j := 0) rfl) ?_
            leaf_len
            refine ⟨k, rfl, log_key hkk, ?_⟩
            rw [numC_str, sOf_e40]
            refine r_addS (by simp only [sOf_len, sizeLine_eq, List.length_append, List.length_singleton]; omega) ?_
            rw [sOf_app]
            leaf_len
            refine r_ixT (sqT_at ha) (atI_nat (j := 1) rfl) ?_
            leaf_len
            refine ⟨x, l, rfl, nx, ok.left, lh.1, ?_⟩
            refine r_addS (by simp only [sOf_len, sizeLine_eq, List.length_append, List.length_singleton]; omega) ?_
            rw [sOf_app]
            leaf_len
            rw [sOf_e44]
            refine r_addS (by simp only [sOf_len, sizeLine_eq, List.length_append, List.length_singleton]; omega) ?_
            rw [sOf_app]
            leaf_len
            refine r_ixT (sqT_at ha) (atI_nat (j := 2) rfl) ?_
            leaf_len
            refine ⟨y, r, rfl, ny, ok.right, lh.2, ?_⟩
            refine r_addS (by simp only [sOf_len, sizeLine_eq, List.length_append, List.length_singleton]; omega) ?_
            rw [sOf_app]
            leaf_len
            rw [sOf_e41]
            refine r_addS (by simp only [sOf_len, sizeLine_eq, List.length_append, List.length_singleton]; omega) ?_
            rw [sOf_app]
            have et : (Tr.node l k r).txtC = numC k ++ [40] ++ l.txtC ++ [44] ++ r.txtC ++ [41] := by
              show (if (l.isNil && r.isNil) = true then _ else _) = _
              rw [cc]; simp
            rw [← et]
            exact q
        · have cc : (l.isNil && r.isNil) = false := by rw [c1]; rfl
          leaf_len
          refine r_ixT (sqT_at ha) (atI_nat (j := 0) rfl) ?_
          leaf_len
          refine ⟨k, rfl, log_key hkk, ?_⟩
          rw [numC_str, sOf_e40]
          refine r_addS (by simp only [sOf_len, sizeLine_eq, List.length_append, List.length_singleton]; omega) ?_
          rw [sOf_app]
          leaf_len
          refine r_ixT (sqT_at ha) (atI_nat (j := 1) rfl) ?_
          leaf_len
          refine ⟨x, l, rfl, nx, ok.left, lh.1, ?_⟩
          refine r_addS (by simp only [sOf_len, sizeLine_eq, List.length_append, List.length_singleton]; omega) ?_
          rw [sOf_app]
          leaf_len
          rw [sOf_e44]
          refine r_addS (by simp only [sOf_len, sizeLine_eq, List.length_append, List.length_singleton]; omega) ?_
          rw [sOf_app]
          leaf_len
          refine r_ixT (sqT_at ha) (atI_nat (j := 2) rfl) ?_
          leaf_len
          refine ⟨y, r, rfl, ny, ok.right, lh.2, ?_⟩
          refine r_addS (by simp only [sOf_len, sizeLine_eq, List.length_append, List.length_singleton]; omega) ?_
          rw [sOf_app]
          leaf_len
          rw [sOf_e41]
          refine r_addS (by simp only [sOf_len, sizeLine_eq, List.length_append, List.length_singleton]; omega) ?_
          rw [sOf_app]
          have et : (Tr.node l k r).txtC = numC k ++ [40] ++ l.txtC ++ [44] ++ r.txtC ++ [41] := by
            show (if (l.isNil && r.isNil) = true then _ else _) = _
            rw [cc]; simp
          rw [← et]
          exact q
theorem eInt {i j : Int} : decide (V.int i = V.int j) = decide (i = j) := by
  by_cases h : i = j
  · rw [decide_eq_true h, decide_eq_true (by rw [h])]
  · rw [decide_eq_false h, decide_eq_false fun z => h (V.int.inj z)]
theorem zip_all : ∀ {ns ms : List Int}, ns.length = ms.length → ((ns.zip ms).map fun z => decide (z.1 = z.2)).all id = decide (ns = ms)
  | [], [], _ => rfl
  | x :: ns, y :: ms, h => by
    have ih := zip_all (ns := ns) (ms := ms) (by simpa using h)
    show (decide (x = y) && ((ns.zip ms).map fun z => decide (z.1 = z.2)).all id) = _
    rw [ih]
    by_cases h1 : x = y
    · by_cases h2 : ns = ms
      · rw [h1, h2]; simp
      · rw [decide_eq_false h2, decide_eq_false fun z => h2 (List.cons.inj z).2, Bool.and_false]
    · rw [decide_eq_false h1, decide_eq_false fun z => h1 (List.cons.inj z).1, Bool.false_and]
  | [], _ :: _, h => nomatch h
  | _ :: _, [], h => nomatch h
def spLSame (K : PySem.W.Frag) (n : Nat) : Sp := fun vs H Q _ => (∃ i j : Int, n ≠ 0 ∧ vs = [.int i, .int j] ∧ ∀ H', Same H H' → Q (.bl (decide (i = j))) H') ∨
  ∃ (a b : Addr) (ns ms : List Int), 1 < n ∧ vs = [.ref a, .ref b] ∧ SqT K H a (ns.map V.int) ∧ SqT K H b (ms.map V.int) ∧ ms.length ≤ 1000 ∧ ns.length ≤ 1000 ∧ ∀ H', Same H H' → Q (.bl (decide (ns = ms))) H'
theorem ok__law_same_n (T : Txt K mg cs) : ∀ n : Nat, n ≤ 30 → Df P w K mg base CX0 "_law_same" ["_law_found", "_law_due"] n (spLSame K n)
  | 0, _ => T.d__law_same.zero fun vs H Q E h => by
    rcases h with ⟨i, j, h, _⟩ | ⟨_, _, _, _, h, _⟩
    · exact h rfl
    · exact absurd h (Nat.not_lt_zero _)
  | n + 1, hn => T.d__law_same.df fun f fd F => by
    have D_self := ok__law_same_n T n (by omega)
    refine F.ok sc__law_same (fun vs H Q E h => ?_) (fun cdv A outer s H vs Q E hr h => ?_)
    · rcases h with ⟨i, j, _, rfl, _⟩ | ⟨_, _, _, _, _, rfl, _⟩ <;> rfl
    · rcases h with ⟨i, j, _, rfl, q⟩ | ⟨a, b, ns, ms, hn, rfl, ha, hb, l1, l2, q⟩
      · refine ⟨_, (pss_cons (ps_if (pt_val (pe_callB (ku_isiT (K := K) (by rfl)) (by rfl) T.b_isinstance (by decide +kernel) (pa_cons (pv 1) (pa_cons (pe_tup (pa_cons (pe_bltn (v := .ty "list") rfl T.b_list (by decide +kernel) rfl) (pa_cons (pe_bltn (v := .ty "tuple") rfl T.b_tuple (by decide +kernel) rfl) pa_nil))) pa_nil))))
        (pss_cons (ps_if (PW.pt (pw_or (pt_cmpR (ku_ne (K := K) (by rfl) (by exact hr.units)) (pe_callB (ku_isi (K := K) (by rfl)) (by rfl) T.b_isinstance (by decide +kernel) (pa_cons (pv 0) (pa_cons (pe_bltn (v := .ty "list") rfl T.b_list (by decide +kernel) rfl) pa_nil))) (pe_callB (ku_isi (K := K) (by rfl)) (by rfl) T.b_isinstance (by decide +kernel) (pa_cons (pv 1) (pa_cons (pe_bltn (v := .ty "list") rfl T.b_list (by decide +kernel) rfl) pa_nil))) (by first | exact nomark _ | rfl)) (pw_or1 (pt_cmpR (ku_ne (K := K) (by rfl) (by exact hr.units)) (pe_callB (ku_isi (K := K) (by rfl)) (by rfl) T.b_isinstance (by decide +kernel) (pa_cons (pv 0) (pa_cons (pe_bltn (v := .ty "tuple") rfl T.b_tuple (by decide +kernel) rfl) pa_nil))) (pe_callB (ku_isi (K := K) (by rfl)) (by rfl) T.b_isinstance (by decide +kernel) (pa_cons (pv 1) (pa_cons (pe_bltn (v := .ty "tuple") rfl T.b_tuple (by decide +kernel) rfl) pa_nil))) (by first | exact nomark _ | rfl)))))
        (pss_one (ps_ret pe_bl))
        pss_nil)
        (pss_one (ps_ret (pe_and (pe_cmpR (ku_eq (K := K) (by rfl) (by exact hr.units)) (pe_callB (ku_len (K := K) (w := w) (by rfl) (by rfl)) (by rfl) T.b_len (by decide +kernel) (pa_cons (pv 0) pa_nil)) (pe_callB (ku_len (K := K) (w := w) (by rfl) (by rfl)) (by rfl) T.b_len (by decide +kernel) (pa_cons (pv 1) pa_nil)) (by first | exact nomark _ | rfl)) (pe_one (pe_callB (ku_all (K := K) (by rfl) rfl) (by rfl) T.b_all (by decide +kernel) (pa_cons (pe_lc (own := [("_law_k", 2)]) rfl sc__law_same.nd (pi_range1 (by rfl) T.b_range (pa_cons (pe_callB (ku_len (K := K) (w := w) (by rfl) (by rfl)) (by rfl) T.b_len (by decide +kernel) (pa_cons (pv 1) pa_nil)) pa_nil)) (blkOk_by (N := ["_law_found", "_law_due", "_law_k"]) (sc := defScope s__law_same) (own := [("_law_k", 2)]) (by decide +kernel)) (fun _ _ _ _ _ => (pg_name (i := 2) sc__law_same.nd rfl (.inl rfl))) (fun _ _ _ _ _ => pts_nil) (fun _ _ _ _ _ => (pe_cd D_self (hr.mono (by omega)) (by rfl) (pa_cons (pe_ix (kixu (K := K) (by rfl) (by exact hu_of hr)) (pv 0) (pv 2) (fun _ _ => rfl)) (pa_cons (pe_ix (kixu (K := K) (by rfl) (by exact hu_of hr)) (pv 1) (pv 2) (fun _ _ => rfl)) pa_nil))))) pa_nil)))))))
        pss_nil)
        (pss_one (ps_ret (pe_and (pe_cmpR (ku_eq (K := K) (by rfl) (by exact hr.units)) (pe_callB (ku_isi (K := K) (by rfl)) (by rfl) T.b_isinstance (by decide +kernel) (pa_cons (pv 0) (pa_cons (pe_bltn (v := .ty "bool") rfl T.b_bool (by decide +kernel) rfl) pa_nil))) (pe_callB (ku_isi (K := K) (by rfl)) (by rfl) T.b_isinstance (by decide +kernel) (pa_cons (pv 1) (pa_cons (pe_bltn (v := .ty "bool") rfl T.b_bool (by decide +kernel) rfl) pa_nil))) (by first | exact nomark _ | rfl)) (pe_one (pe_cmpR (ku_eq (K := K) (by rfl) (by exact hr.units)) (pv 0) (pv 1) (by first | exact nomark _ | rfl))))))), ?_⟩
        show (_ : TS) _ [some (V.int i), some (V.int j), none] H
        leaf_len
        intro tp htp
        leaf_len
        have sm := Same.new htp (o := .tup [.ty "list", .ty "tuple"])
        refine ⟨_, tp, _, _, _, false, rfl, upd_same, .cons (.ty "list") (.cons (.ty "tuple") .nil), .base (.int j), kitAny_cons (b := false) (kit_ty (by decide +kernel)) (fun _ => kitAny_cons (b := false) (kit_ty (by decide +kernel)) (fun _ => kitAny_nil) (fun z => nomatch z)) (fun z => nomatch z), ?_⟩
        leaf_len
        refine r_isi (.ty "bool") (.base (.int i)) (kit_ty (r := false) (by decide +kernel)) ?_
        leaf_len
        refine r_isi (.ty "bool") (.base (.int j)) (kit_ty (r := false) (by decide +kernel)) ?_
        leaf_len
        have := q _ sm
        rw [← eInt] at this
        exact this
      · refine ⟨_, (pss_cons (ps_if (pt_val (pe_callB (ku_isiT (K := K) (by rfl)) (by rfl) T.b_isinstance (by decide +kernel) (pa_cons (pv 1) (pa_cons (pe_tup (pa_cons (pe_bltn (v := .ty "list") rfl T.b_list (by decide +kernel) rfl) (pa_cons (pe_bltn (v := .ty "tuple") rfl T.b_tuple (by decide +kernel) rfl) pa_nil))) pa_nil))))
        (pss_cons (ps_if (PW.pt (pw_or (pt_cmpR (ku_ne (K := K) (by rfl) (by exact hr.units)) (pe_callB (ku_isi (K := K) (by rfl)) (by rfl) T.b_isinstance (by decide +kernel) (pa_cons (pv 0) (pa_cons (pe_bltn (v := .ty "list") rfl T.b_list (by decide +kernel) rfl) pa_nil))) (pe_callB (ku_isi (K := K) (by rfl)) (by rfl) T.b_isinstance (by decide +kernel) (pa_cons (pv 1) (pa_cons (pe_bltn (v := .ty "list") rfl T.b_list (by decide +kernel) rfl) pa_nil))) (by first | exact nomark _ | rfl)) (pw_or1 (pt_cmpR (ku_ne (K := K) (by rfl) (by exact hr.units)) (pe_callB (ku_isi (K := K) (by rfl)) (by rfl) T.b_isinstance (by decide +kernel) (pa_cons (pv 0) (pa_cons (pe_bltn (v := .ty "tuple") rfl T.b_tuple (by decide +kernel) rfl) pa_nil))) (pe_callB (ku_isi (K := K) (by rfl)) (by rfl) T.b_isinstance (by decide +kernel) (pa_cons (pv 1) (pa_cons (pe_bltn (v := .ty "tuple") rfl T.b_tuple (by decide +kernel) rfl) pa_nil))) (by first | exact nomark _ | rfl)))))
        (pss_one (ps_ret pe_bl))
        pss_nil)
        (pss_one (ps_ret (pe_and (pe_cmpR (ku_eq (K := K) (by rfl) (by exact hr.units)) (pe_callB (ku_len (K := K) (w := w) (by rfl) (by rfl)) (by rfl) T.b_len (by decide +kernel) (pa_cons (pv 0) pa_nil)) (pe_callB (ku_len (K := K) (w := w) (by rfl) (by rfl)) (by rfl) T.b_len (by decide +kernel) (pa_cons (pv 1) pa_nil)) (by first | exact nomark _ | rfl)) (pe_one (pe_callB (ku_all (K := K) (by rfl) rfl) (by rfl) T.b_all (by decide +kernel) (pa_cons (pe_lc (own := [("_law_k", 2)]) rfl sc__law_same.nd (pi_range1 (by rfl) T.b_range (pa_cons (pe_callB (ku_len (K := K) (w := w) (by rfl) (by rfl)) (by rfl) T.b_len (by decide +kernel) (pa_cons (pv 1) pa_nil)) pa_nil)) (blkOk_by (N := ["_law_found", "_law_due", "_law_k"]) (sc := defScope s__law_same) (own := [("_law_k", 2)]) (by decide +kernel)) (fun _ _ _ _ _ => (pg_name (i := 2) sc__law_same.nd rfl (.inl rfl))) (fun _ _ _ _ _ => pts_nil) (fun _ _ _ _ _ => (pe_cd D_self (hr.mono (by omega)) (by rfl) (pa_cons (pe_ix (kixu (K := K) (by rfl) (by exact hu_of hr)) (pv 0) (pv 2) (fun _ _ => rfl)) (pa_cons (pe_ix (kixu (K := K) (by rfl) (by exact hu_of hr)) (pv 1) (pv 2) (fun _ _ => rfl)) pa_nil))))) pa_nil)))))))
        pss_nil)
        (pss_one (ps_ret (pe_and (pe_cmpR (ku_eq (K := K) (by rfl) (by exact hr.units)) (pe_callB (ku_isi (K := K) (by rfl)) (by rfl) T.b_isinstance (by decide +kernel) (pa_cons (pv 0) (pa_cons (pe_bltn (v := .ty "bool") rfl T.b_bool (by decide +kernel) rfl) pa_nil))) (pe_callB (ku_isi (K := K) (by rfl)) (by rfl) T.b_isinstance (by decide +kernel) (pa_cons (pv 1) (pa_cons (pe_bltn (v := .ty "bool") rfl T.b_bool (by decide +kernel) rfl) pa_nil))) (by first | exact nomark _ | rfl)) (pe_one (pe_cmpR (ku_eq (K := K) (by rfl) (by exact hr.units)) (pv 0) (pv 1) (by first | exact nomark _ | rfl))))))), ?_⟩
        show (_ : TS) _ [some (V.ref a), some (V.ref b), none] H
        leaf_len
        intro tp htp
        leaf_len
        have sm := Same.new htp (o := .tup [.ty "list", .ty "tuple"])
        have ha1 := sm.sqT ha
        have hb1 := sm.sqT hb
        refine ⟨_, tp, _, _, _, true, rfl, upd_same, .cons (.ty "list") (.cons (.ty "tuple") .nil), tyT_of hb1, kitAny_cons (b := false) (kit_ty (by decide +kernel)) (fun _ => kitAny_cons (b := true) (kit_ty (by decide +kernel)) (fun z => nomatch z) (fun _ => rfl)) (fun z => nomatch z), ?_⟩
        generalize upd H tp (HO.tup [.ty "list", .ty "tuple"]) = H1 at sm ha1 hb1 ⊢
        leaf_len
        refine r_isi (.ty "list") (tyT_of ha1) (kit_ty (r := false) (by decide +kernel)) ?_
        leaf_len
        refine r_isi (.ty "list") (tyT_of hb1) (kit_ty (r := false) (by decide +kernel)) ?_
        leaf_len
        refine r_isi (.ty "tuple") (tyT_of ha1) (kit_ty (r := true) (by decide +kernel)) ?_
        leaf_len
        refine r_isi (.ty "tuple") (tyT_of hb1) (kit_ty (r := true) (by decide +kernel)) ?_
        leaf_len
        rw [eInt, List.length_map, List.length_map]
        have eD : decide ((ns.length : Int) = (ms.length : Int)) = decide (ns.length = ms.length) := by
          by_cases h : ns.length = ms.length
          · rw [decide_eq_true h, decide_eq_true (by omega)]
          · rw [decide_eq_false h, decide_eq_false (by omega)]
        rw [eD]
        refine r_ite (fun hl => ?_) (fun hl => ?_)
        · leaf_len
          rw [List.length_map]
          refine ⟨_, rfl, by omega, by omega, ?_⟩
          refine c_range (fun A i acc H' => H1 A = none ∧ Same H1 H' ∧ acc = ((ns.zip ms).take i).map fun z => V.bl (decide (z.1 = z.2))) (fun A hA => ⟨hA, Same.new hA, rfl⟩) ?_ ?_
          · rintro A i acc H' hi hA ⟨nA, hs, rfl⟩
            have hi1 : i < ns.length := by omega
            have hi2 : i < ms.length := by omega
            refine ⟨rfl, ?_⟩
            leaf_len
            rw [Int.zero_add]
            refine r_ixT (v := .int ns[i]) (hs.sqT ha1) (atI_nat (by rw [List.getElem?_map, List.getElem?_eq_getElem hi1]; rfl)) ?_
            leaf_len
            refine r_ixT (v := .int ms[i]) (hs.sqT hb1) (atI_nat (by rw [List.getElem?_map, List.getElem?_eq_getElem hi2]; rfl)) ?_
            leaf_len
            refine .inl ⟨ns[i], ms[i], by omega, rfl, fun H2 hs2 => ?_⟩
            refine compYes (hs2 _ _ hA) ?_ ⟨nA, (Fr.put0 (S := []) (Fr.same (hs.trans hs2)) nA).toSame, ?_⟩
            · rw [List.length_map, List.length_take, sizeLine_eq]; omega
            · rw [List.take_add_one, List.getElem?_eq_getElem (by rw [List.length_zip]; omega), List.map_append, List.getElem_zip]; rfl
          · rintro A acc H' hA ⟨nA, hs, rfl⟩
            rw [List.take_of_length_le (by rw [List.length_zip]; omega)] at hA
            leaf_len
            refine r_all (bs := (ns.zip ms).map fun z => decide (z.1 = z.2)) (sqL_at (by rw [List.map_map]; exact hA)) ?_
            rw [zip_all hl]
            exact q _ (sm.trans hs)
        · leaf_len
          have := q _ sm
          rw [decide_eq_false fun e => hl (by rw [e])] at this
          exact this
theorem ok__law_same (T : Txt K mg cs) : Df P w K mg base CX0 "_law_same" ["_law_found", "_law_due"] 2 (spLSame K 2) := ok__law_same_n T 2 (by decide)
theorem ok__law_text (T : Txt K mg cs) : Df P w K mg base CX0 "_law_text" ["_law_node_here"] 26 (spLText 26) := ok__law_text_n T 26 (by decide)
end

/-! the text of a tree names the tree -/
theorem num_split : ∀ {a b r s : List Nat}, a ++ r = b ++ s → a.all isNum = true → b.all isNum = true → noNum r = true → noNum s = true → a = b ∧ r = s
  | [], [], _, _, h, _, _, _, _ => ⟨rfl, h⟩
  | [], c :: b, r, s, h, _, hb, hr, _ => by
    have h : r = c :: (b ++ s) := h
    subst h
    have h1 : isNum c = true := (List.all_eq_true.mp hb) c List.mem_cons_self
    have h2 : (!isNum c) = true := hr
    rw [h1] at h2; cases h2
  | c :: a, [], r, s, h, ha, _, _, hs => by
    have h : s = c :: (a ++ r) := h.symm
    subst h
    have h1 : isNum c = true := (List.all_eq_true.mp ha) c List.mem_cons_self
    have h2 : (!isNum c) = true := hs
    rw [h1] at h2; cases h2
  | c :: a, d :: b, r, s, h, ha, hb, hr, hs => by
    obtain ⟨h1, h2⟩ := List.cons.inj h
    have ha2 : a.all isNum = true := List.all_eq_true.mpr fun x hx => (List.all_eq_true.mp ha) x (List.mem_cons_of_mem _ hx)
    have hb2 : b.all isNum = true := List.all_eq_true.mpr fun x hx => (List.all_eq_true.mp hb) x (List.mem_cons_of_mem _ hx)
    obtain ⟨e1, e2⟩ := num_split h2 ha2 hb2 hr hs
    exact ⟨by rw [h1, e1], e2⟩
theorem endT_noNum {c : Nat} {r s : List Nat} (h : endT s) (hc : isNum c = true) : s ≠ c :: r := fun e => by
  subst e
  have := h.noNum
  have h2 : (!isNum c) = true := this
  rw [hc] at h2; cases h2
theorem tail_end {l r : Tr} {k : Int} {rest : List Nat} (h : endT rest) : ∃ q, (Tr.node l k r).txtC ++ rest = numC k ++ q ∧ noNum q = true ∧
    (((l.isNil && r.isNil) = true ∧ q = rest) ∨ ((l.isNil && r.isNil) = false ∧ q = 40 :: (l.txtC ++ 44 :: (r.txtC ++ 41 :: rest)))) := by
  cases hl : (l.isNil && r.isNil) with
  | true =>
    refine ⟨rest, ?_, h.noNum, .inl ⟨rfl, rfl⟩⟩
    show (if (l.isNil && r.isNil) = true then _ else _) ++ rest = _
    rw [if_pos hl]
  | false =>
    refine ⟨40 :: (l.txtC ++ 44 :: (r.txtC ++ 41 :: rest)), ?_, rfl, .inr ⟨rfl, rfl⟩⟩
    show (if (l.isNil && r.isNil) = true then _ else _) ++ rest = _
    rw [hl]; simp
theorem isNil_both {l r : Tr} (h : (l.isNil && r.isNil) = true) : l = .nil ∧ r = .nil := by
  rw [Bool.and_eq_true] at h
  cases l with
  | nil =>
    cases r with
    | nil => exact ⟨rfl, rfl⟩
    | node => exact absurd h.2 (fun z => nomatch z)
  | node => exact absurd h.1 (fun z => nomatch z)
theorem endT_no40 {s r : List Nat} (h : endT s) : s ≠ 40 :: r := fun e => by
  subst e
  exact h.elim (fun z => nomatch z) (fun z => nomatch z)
theorem txt_inj : ∀ {t u : Tr} {x y : List Nat}, t.txtC ++ x = u.txtC ++ y → endT x → endT y → (∀ k ∈ t.pre, k.natAbs < 10 ^ 31) → (∀ k ∈ u.pre, k.natAbs < 10 ^ 31) → t = u ∧ x = y
  | .nil, .nil, _, _, h, _, _, _, _ => ⟨rfl, h⟩
  | .nil, .node l k r, x, y, h, hx, _, _, _ => by
    obtain ⟨c, s, e, hc⟩ := txtC_head (t := .node l k r) (fun z => nomatch z)
    rw [e] at h
    exact absurd h (endT_noNum hx hc)
  | .node l k r, .nil, x, y, h, _, hy, _, _ => by
    obtain ⟨c, s, e, hc⟩ := txtC_head (t := .node l k r) (fun z => nomatch z)
    rw [e] at h
    exact absurd h.symm (endT_noNum hy hc)
  | .node l k r, .node l' k' r', x, y, h, hx, hy, ht, hu => by
    obtain ⟨q, e1, n1, c1⟩ := tail_end (l := l) (r := r) (k := k) hx
    obtain ⟨q', e2, n2, c2⟩ := tail_end (l := l') (r := r') (k := k') hy
    rw [e1, e2] at h
    obtain ⟨h1, h2⟩ := num_split h (numC_num k) (numC_num k') n1 n2
    have hk : k = k' := by
      have a1 := parseKey_numC (ht k (by simp [Tr.pre]))
      have a2 := parseKey_numC (hu k' (by simp [Tr.pre]))
      rw [h1, a2] at a1
      exact (Option.some.inj a1).symm
    subst hk
    rcases c1 with ⟨d1, f1⟩ | ⟨d1, f1⟩ <;> rcases c2 with ⟨d2, f2⟩ | ⟨d2, f2⟩
    · obtain ⟨a1, a2⟩ := isNil_both d1
      obtain ⟨b1, b2⟩ := isNil_both d2
      subst a1 a2 b1 b2
      exact ⟨rfl, by rw [← f1, ← f2]; exact h2⟩
    · rw [f1, f2] at h2; exact absurd h2 (endT_no40 hx)
    · rw [f1, f2] at h2; exact absurd h2.symm (endT_no40 hy)
    · rw [f1, f2] at h2
      obtain ⟨g1, g2⟩ := txt_inj (List.cons.inj h2).2 (.inl rfl) (.inl rfl) (fun k hk => ht k (by simp [Tr.pre, hk])) (fun k hk => hu k (by simp [Tr.pre, hk]))
      obtain ⟨g3, g4⟩ := txt_inj (List.cons.inj g2).2 (.inr rfl) (.inr rfl) (fun k hk => ht k (by simp [Tr.pre, hk])) (fun k hk => hu k (by simp [Tr.pre, hk]))
      rw [g1, g3]
      exact ⟨rfl, (List.cons.inj g4).2⟩
theorem txt_eq {t u : Tr} (ht : TOk t) (hu : TOk u) : decide (V.str (sOf t.txtC) = V.str (sOf u.txtC)) = decide (t.pre = u.pre) := by
  by_cases h : t.pre = u.pre
  · rw [Tr.pre_inj ht.bst hu.bst h, decide_eq_true rfl, decide_eq_true rfl]
  · rw [decide_eq_false h]
    refine decide_eq_false fun z => h ?_
    have z := sOf_inj.mp (V.str.inj z)
    have := (txt_inj (x := []) (y := []) (by rw [z]) trivial trivial (fun k hk => ht.abs hk) (fun k hk => hu.abs hk)).1
    rw [this]
/-- two trees that the law names -/
def tA : Tr := .node (.node .nil 1 .nil) 2 (.node .nil 3 (.node .nil 4 .nil))
def tB : Tr := .node (.node .nil (-1) .nil) 0 .nil
theorem numC_small {n : Nat} (h : n < 10) : numC (n : Int) = [48 + n] := by
  unfold numC
  rw [if_neg (by omega), Int.natAbs_natCast, TL.numL_lt h]
theorem txtA : ("2(1,3(,4))" : Str) = sOf tA.txtC := by
  have e : tA.txtC = numC 2 ++ 40 :: (numC 1 ++ 44 :: ((numC 3 ++ 40 :: ([] ++ 44 :: (numC 4 ++ [41]))) ++ [41])) := rfl
  rw [e, show numC 2 = [50] from numC_small (n := 2) (by decide), show numC 1 = [49] from numC_small (n := 1) (by decide), show numC 3 = [51] from numC_small (n := 3) (by decide), show numC 4 = [52] from numC_small (n := 4) (by decide)]
  decide +kernel
theorem txtB : ("0(-1,)" : Str) = sOf tB.txtC := by
  have e : tB.txtC = numC 0 ++ 40 :: ((45 :: TL.numL 1) ++ 44 :: ([] ++ [41])) := rfl
  rw [e, show numC 0 = [48] from numC_small (n := 0) (by decide), TL.numL_lt (by decide)]
  decide +kernel
theorem tA_ok : TOk tA := ⟨⟨⟨trivial, trivial, by decide, by decide⟩, ⟨trivial, ⟨trivial, trivial, by decide, by decide⟩, by decide, by decide⟩, by decide, by decide⟩, by decide, by unfold KeyOk; decide⟩
theorem tB_ok : TOk tB := ⟨⟨⟨trivial, trivial, by decide, by decide⟩, trivial, by decide, by decide⟩, by decide, by unfold KeyOk; decide⟩

section
variable {P : Program} {w : World} {K : PySem.W.Frag} {mg : Str → Option Value} {base : Heap} {cs : Cs}
theorem sqL_fr {p a : Addr} {xs : List V} {H H' : Hp} (f : Fr [p] H H') (np : H p = none) (h : SqL K H a xs) : SqL K H' a xs := by
  rcases h with (h | ⟨o, h⟩) | h
  · exact .inl (.inl (f.other (fun e => by rw [e, np] at h; cases h) h))
  · exact .inl (.inr ⟨o, f.other (fun e => by rw [e, np] at h; cases h) h⟩)
  · exact .inr h
def spLaw (K : PySem.W.Frag) : Sp := fun vs H Q _ => ∃ (a : Addr) (ns : List Int), vs = [.ref a] ∧ SqL K H a (ns.map V.int) ∧ ns.length ≤ 63 ∧ ∀ H', Q (.bl true) H'
theorem ok_law (T : Txt K mg cs) {f : Addr} {fd : FuncData} (F : Fun K "law" "law" s_law f fd) : FnOk P w K mg base CX0 40 f fd ["_law_script"] (spLaw K) := by
  refine F.ok sc_law (fun vs H Q E h => ?_) (fun cdv A outer s H vs Q E hr h => ?_)
  · obtain ⟨a, ns, rfl, _⟩ := h; rfl
  · obtain ⟨a, ns, rfl, hS, hl, q⟩ := h
    refine ⟨_, (pss_cons (ps_for PassesOwn.never rfl (pi_range1 (by rfl) T.b_range (pa_cons (pe_callB (cu_max rfl) (by rfl) T.b_max (by decide +kernel) (pa_cons pe_int (pa_cons (pe_callB (cu_min rfl) (by rfl) T.b_min (by decide +kernel) (pa_cons pe_int (pa_cons (pe_callB (ku_len (K := K) (w := w) (by rfl) (by rfl)) (by rfl) T.b_len (by decide +kernel) (pa_cons (pv 0) pa_nil)) pa_nil))) pa_nil))) pa_nil)) (pg_name (i := 1) sc_law.nd rfl (.inl rfl))
        (pss_cons (ps_set (i := 2) sc_law.nd rfl (.inl rfl) (pe_cd (ok__law_fount T) (hr.mono (by first | decide | omega)) (by rfl) (pa_cons (pv 0) (pa_cons (pv 1) pa_nil))))
        (pss_one (ps_for PassesOwn.never rfl (ki_list (K := K) (by rfl) (pe_lst (pa_cons pe_int (pa_cons pe_int pa_nil)))) (pg_name (i := 3) sc_law.nd rfl (.inl rfl))
        (pss_cons (ps_set (i := 4) sc_law.nd rfl (.inl rfl) (pe_cd (ok__law_grown T) (hr.mono (by first | decide | omega)) (by rfl) (pa_cons (pv 2) (pa_cons (pv 3) pa_nil))))
        (pss_cons (ps_set (i := 5) sc_law.nd rfl (.inl rfl) (pe_cd (ok__law_text T) (hr.mono (by first | decide | omega)) (by rfl) (pa_cons (pe_cd (ok__law_node T) (hr.mono (by first | decide | omega)) (by rfl) (pa_cons (pv 4) pa_nil)) pa_nil)))
        (pss_cons (ps_for PassesOwn.never rfl (pi_range1 (by rfl) T.b_range (pa_cons pe_int pa_nil)) (pg_name (i := 6) sc_law.nd rfl (.inl rfl))
        (pss_one (ps_if (PW.pt (pw_or (pt_cmpR (ku_ne (K := K) (by rfl) (by exact hr.units)) (pe_cd (ok_show_tree T) (hr.mono (by first | decide | omega)) (by rfl) (pa_cons (pv 4) pa_nil)) (pv 5) (by first | exact nomark _ | rfl)) (pw_or1 (pt_not (pt_val (pe_cd (ok__law_same T) (hr.mono (by first | decide | omega)) (by rfl) (pa_cons (pe_cd (ok_read_tree T) (hr.mono (by first | decide | omega)) (by rfl) (pa_cons (pv 5) pa_nil)) (pa_cons (pv 4) pa_nil))))))))
        (pss_one (ps_ret pe_bl))
        pss_nil)))
        (pss_cons (ps_set (i := 7) sc_law.nd rfl (.inl rfl) pe_non)
        (pss_cons (ps_for PassesOwn.never rfl (ki_list (K := K) (by rfl) (pe_cd (ok__law_mixed T) (hr.mono (by first | decide | omega)) (by rfl) (pa_cons (pv 2) (pa_cons (pv 4) pa_nil)))) (pg_name (i := 8) sc_law.nd rfl (.inl rfl))
        (pss_one (ps_set (i := 7) sc_law.nd rfl (.inl rfl) (pe_cd (ok__law_leaf T) (hr.mono (by first | decide | omega)) (by rfl) (pa_cons (pv 7) (pa_cons (pv 8) pa_nil))))))
        (pss_cons (ps_set (i := 9) sc_law.nd rfl (.inl rfl) (pe_cd (ok__law_preorder T) (hr.mono (by first | decide | omega)) (by rfl) (pa_cons (pv 7) pa_nil)))
        (pss_one (ps_if (PW.pt (pw_or (pt_cmpR (ku_ne (K := K) (by rfl) (by exact hr.units)) (pe_cmpR (ku_eq (K := K) (by rfl) (by exact hr.units)) (pe_cd (ok_show_tree T) (hr.mono (by first | decide | omega)) (by rfl) (pa_cons (pv 9) pa_nil)) (pv 5) (by first | exact nomark _ | rfl)) (pe_cmpR (ku_eq (K := K) (by rfl) (by exact hr.units)) (pv 9) (pv 4) (by first | exact nomark _ | rfl)) (by first | exact nomark _ | rfl)) (pw_or1 (pt_not (pt_val (pe_cd (ok__law_same T) (hr.mono (by first | decide | omega)) (by rfl) (pa_cons (pe_cd (ok_read_tree T) (hr.mono (by first | decide | omega)) (by rfl) (pa_cons (pe_cd (ok_show_tree T) (hr.mono (by first | decide | omega)) (by rfl) (pa_cons (pv 9) pa_nil)) pa_nil)) (pa_cons (pv 9) pa_nil))))))))
        (pss_one (ps_ret pe_bl))
        pss_nil))))))))))))
        (pss_one (ps_ret (pe_and (pe_cmpR (ku_eq (K := K) (by rfl) (by exact hr.units)) (pe_cd (ok_show_tree T) (hr.mono (by first | decide | omega)) (by rfl) (pa_cons (pe_tup (pa_cons pe_int (pa_cons pe_int (pa_cons pe_int (pa_cons pe_int pa_nil))))) pa_nil)) pe_str (by first | exact nomark _ | rfl)) (pe_one (pe_cd (ok__law_same T) (hr.mono (by first | decide | omega)) (by rfl) (pa_cons (pe_cd (ok_read_tree T) (hr.mono (by first | decide | omega)) (by rfl) (pa_cons pe_str pa_nil)) (pa_cons (pe_tup (pa_cons pe_int (pa_cons (pe_un un_neg pe_int) pa_nil))) pa_nil)))))))), ?_⟩
    show (_ : TS) _ [some (V.ref a), none, none, none, none, none, none, none, none, none] H
    leaf_len
    rw [List.length_map]
    have hm : ∀ x : Int, 0 ≤ x → 1 ≤ (if (if x < 6 then x else 6) > 1 then (if x < 6 then x else 6) else 1) ∧ (if (if x < 6 then x else 6) > 1 then (if x < 6 then x else 6) else 1) ≤ 6 := fun x hx => by
      split <;> split at * <;> omega
    have hm := hm (ns.length : Int) (by omega)
    generalize (if (if (ns.length : Int) < 6 then (ns.length : Int) else 6) > 1 then (if (ns.length : Int) < 6 then (ns.length : Int) else 6) else 1) = m at hm ⊢
    refine ⟨m, rfl, by omega, by omega, ?_⟩
    refine l_range (fun i σ H' => SqL K H' a (ns.map V.int) ∧ ∃ o1 o2 o3 o4 o5 o6 o7 o8 o9, σ = [some (.ref a), o1, o2, o3, o4, o5, o6, o7, o8, o9]) ⟨hS, none, none, none, none, none, none, none, none, none, rfl⟩ ?_ ?_
    · rintro i σ H0 hi ⟨hS0, o1, o2, o3, o4, o5, o6, o7, o8, o9, rfl⟩
      leaf_len
      refine ⟨a, ns, _, rfl, hS0, by omega, by omega, fun H1 p hs1 np hp1 => ?_⟩
      leaf_len
      intro ml hml
      leaf_len
      have hl1 : upd H1 ml (.lst [.int 6, .int 24]) ml = some (.lst [.int 6, .int 24]) := upd_same
      have f1 : Fr [p] H0 (upd H1 ml (.lst [.int 6, .int 24])) := (Fr.same hs1).new hml
      have hp1 := hp1.put (u := .lst [.int 6, .int 24]) (q := ml) (fun e => by obtain ⟨x, y, z, e1, _⟩ := hp1; rw [e, hml] at e1; cases e1)
      have nlp : ml ≠ p := fun e => by obtain ⟨x, y, z, e1, _⟩ := hp1; rw [← e, hl1] at e1; cases e1
      generalize upd H1 ml (HO.lst [.int 6, .int 24]) = H2 at hl1 f1 hp1 ⊢
      refine l_list (xs := [.int 6, .int 24]) (fun i σ H' => Fr [p] H0 H' ∧ Pot H' p (300 * i) ∧ H' ml = some (.lst [.int 6, .int 24]) ∧ ∃ o1 o3 o4 o5 o6 o7 o8 o9, σ = [some (.ref a), o1, some (.ref p), o3, o4, o5, o6, o7, o8, o9]) ⟨f1, hp1, hl1, _, _, _, _, _, _, _, _, rfl⟩ (fun i σ H' _ h => sqL_at h.2.2.1) ?_ ?_
      · rintro i y σ H3 hy ⟨f3, hp3, hl3, o1, o3, o4, o5, o6, o7, o8, o9, rfl⟩
        obtain ⟨mo, rfl, mo1, mo24, hi2⟩ : ∃ mo : Nat, y = .int mo ∧ 1 ≤ mo ∧ mo ≤ 24 ∧ i < 2 := by
          have : i = 0 ∨ i = 1 ∨ 2 ≤ i := by omega
          rcases this with e | e | e
          · subst e; exact ⟨6, by cases hy; rfl, by decide, by decide, by decide⟩
          · subst e; exact ⟨24, by cases hy; rfl, by decide, by decide, by decide⟩
          · rw [List.getElem?_eq_none (by simpa using e)] at hy; cases hy
        leaf_len
        refine ⟨p, mo, _, rfl, mo1, mo24, hp3, by omega, fun H4 kb t f4 hp4 hk4 tok tne tl => ?_⟩
        have hl4 := f4.other nlp hl3
        leaf_len
        have th := t.ht_le
        refine ⟨kb, t, rfl, hk4, tok.bst, by omega, by omega, fun H5 nv hs5 n5 => ?_⟩
        leaf_len
        refine ⟨nv, t, rfl, n5, tok, by omega, ?_⟩
        leaf_len
        have hk5 := hs5.sqT hk4
        refine ⟨2, rfl, by decide, by decide, ?_⟩
        refine l_range (fun i σ H' => Same H5 H' ∧ ∃ o1 o6 o7 o8 o9, σ = [some (.ref a), o1, some (.ref p), some (.int mo), some (.ref kb), some (.str (sOf t.txtC)), o6, o7, o8, o9]) ⟨Same.refl _, _, _, _, _, _, rfl⟩ ?_ ?_
        · rintro i σ H6 _ ⟨hs6, o1, o6, o7, o8, o9, rfl⟩
          have hk6 := hs6.sqT hk5
          leaf_len
          refine ⟨kb, t, rfl, hk6, tok, tne, fun H7 hs7 => ?_⟩
          leaf_len
          refine r_iteN (fun z => (z rfl).elim) (fun _ => ?_)
          leaf_len
          refine ⟨t, rfl, tok, tne, fun H8 b hs8 hb => ?_⟩
          leaf_len
          refine .inr ⟨b, kb, t.pre, t.pre, by decide, rfl, hb, hs8.sqT (hs7.sqT hk6), by omega, by omega, fun H9 hs9 => ?_⟩
          rw [decide_eq_true rfl]
          leaf_len
          exact ⟨((hs6.trans hs7).trans hs8).trans hs9, _, _, _, _, _, rfl⟩
        · rintro σ H6 ⟨hs6, o1, o6, o7, o8, o9, rfl⟩
          have hk6 := hs6.sqT hk5
          have hp6 := hp4.same (hs5.trans hs6)
          have hl6 := hs6 _ _ (hs5 _ _ hl4)
          leaf_len
          refine ⟨p, kb, t.pre, _, rfl, .inr hk6, by omega, hp6, by omega, fun H7 x ms f7 hp7 nx hx mp => ?_⟩
          have f07 : Fr [p] H0 H7 := (f3.trans f4).trans ((Fr.same (hs5.trans hs6)).trans f7)
          have hl7 := f7.other nlp hl6
          have hk7 := f7.sqT hk6
          have mnd : ms.Nodup := mp.nodup_iff.mpr (Tr.pre_nodup tok.bst)
          have ml' := mp.length_eq
          have mok : ∀ k ∈ ms, KeyOk k := fun k hk => tok.key k (mp.mem_iff.mp hk)
          leaf_len
          refine l_list (xs := ms.map V.int) (fun i σ H' => Same H7 H' ∧ ∃ v o1 o6 o8 o9, σ = [some (.ref a), o1, some (.ref p), some (.int mo), some (.ref kb), some (.str (sOf t.txtC)), o6, some v, o8, o9] ∧ NodeAt H' (Tr.build .nil (ms.take i)) v) ⟨Same.refl _, .non, _, _, _, _, rfl, rfl⟩ ?_ ?_ ?_
          · rintro i σ H' _ ⟨hs, _⟩
            exact sqL_at (hs _ _ hx)
          · rintro i y σ H' hy ⟨hs, v, o1, o6, o8, o9, rfl, nv⟩
            obtain ⟨k, rfl, hk⟩ := map_get hy
            leaf_len
            refine ⟨v, Tr.build .nil (ms.take i), k, rfl, nv, fun hm => ?_, ?_, fun H2 u hs2 nu => ?_⟩
            · exact not_in_take mnd hk ((Tr.mem_build.mp hm).elim id fun z => nomatch z)
            · have h1 := Tr.ht_le (Tr.build .nil (ms.take i))
              have h2 := build_len (ms := ms.take i)
              have h3 := List.length_take_le' i ms
              omega
            · leaf_len
              exact ⟨hs.trans hs2, u, _, _, _, _, rfl, by rw [build_take hk]; exact nu⟩
          · rintro σ H8 ⟨hs8, v, o1, o6, o8, o9, rfl, nv⟩
            rw [List.length_map, List.take_length] at nv
            obtain ⟨uok, une⟩ := build_ok (ms := ms) (by
              cases t with
              | nil => exact absurd rfl tne
              | node l k r => rw [ml']; simp only [Tr.pre, List.length_cons]; omega) (by omega) mok
            have h1 := Tr.ht_le (Tr.build .nil ms)
            have h2 := uok.len
            generalize Tr.build .nil ms = u at nv uok une h1 h2
            leaf_len
            refine ⟨v, u, rfl, nv, by omega, by omega, fun H9 ob hs9 ho => ?_⟩
            leaf_len
            refine ⟨ob, u, rfl, ho, uok, une, fun H10 hs10 => ?_⟩
            leaf_len
            have hs710 := (hs8.trans hs9).trans hs10
            refine r_eqTT (ns := u.pre) (ms := t.pre) (hs10.sqT ho) (hs710.sqT hk7) ?_
            rw [txt_eq uok tok]
            leaf_len
            refine r_iteN (fun z => (z rfl).elim) (fun _ => ?_)
            leaf_len
            refine ⟨ob, u, rfl, hs10.sqT ho, uok, une, fun H11 hs11 => ?_⟩
            leaf_len
            refine ⟨u, rfl, uok, une, fun H12 rb hs12 hr12 => ?_⟩
            leaf_len
            refine .inr ⟨rb, ob, u.pre, u.pre, by decide, rfl, hr12, (hs11.trans hs12).sqT (hs10.sqT ho), by omega, by omega, fun H13 hs13 => ?_⟩
            rw [decide_eq_true rfl]
            leaf_len
            have hs713 := hs710.trans ((hs11.trans hs12).trans hs13)
            refine ⟨f07.trans (Fr.same hs713), (hp7.same hs713).more (by omega), hs713 _ _ hl7, _, _, _, _, _, _, _, _, rfl⟩
      · rintro σ H' ⟨f3, _, _, o1, o3, o4, o5, o6, o7, o8, o9, rfl⟩
        exact ⟨sqL_fr f3 np hS0, _, _, _, _, _, _, _, _, _, rfl⟩
    · rintro σ H' ⟨_, o1, o2, o3, o4, o5, o6, o7, o8, o9, rfl⟩
      leaf_len
      intro ta hta
      have ta0 : SqT K (upd H' ta (.tup [.int 2, .int 1, .int 3, .int 4])) ta (tA.pre.map V.int) := sqT_at upd_same
      generalize upd H' ta (HO.tup [.int 2, .int 1, .int 3, .int 4]) = H1 at ta0 ⊢
      leaf_len
      refine ⟨ta, tA, rfl, ta0, tA_ok, (fun z => nomatch z), fun H2 hs2 => ?_⟩
      rw [← txtA]
      leaf_len
      rw [txtB]
      refine ⟨tB, rfl, tB_ok, (fun z => nomatch z), fun H3 rb hs3 hr3 => ?_⟩
      leaf_len
      intro tb htb
      have hr4 := (Same.new htb (o := .tup [.int 0, .int (-1)])).sqT hr3
      have tb0 : SqT K (upd H3 tb (.tup [.int 0, .int (-1)])) tb (tB.pre.map V.int) := sqT_at upd_same
      generalize upd H3 tb (HO.tup [.int 0, .int (-1)]) = H4 at hr4 tb0 ⊢
      leaf_len
      refine .inr ⟨rb, tb, tB.pre, tB.pre, by decide, rfl, hr4, tb0, by decide, by decide, fun H5 hs5 => ?_⟩
      rw [decide_eq_true rfl]
      exact q _
end

theorem all_mk {l : PySem.W.OpenLaw} {w : World} {K : PySem.W.Frag} {h : Heap} {mg : Str → Option Value} {fa C_TextReader f0 f1 f2 f3 f4 f5 f6 f7 f8 f9 f10 f11 f12 f13 f14 f15 f16 f17 f18 f19 f20 f21 f22 f23 f24 f25 f26 : Addr} (X : K.In h) (G : h.Ns mainGlobals mg) (hfa : mg "law" = some (.ref fa))
    {oc0 kV0 dc0 pm0 cd0 ct0 oc1 kV1 dc1 pm1 cd1 ct1 oc2 kV2 dc2 pm2 cd2 ct2 oc3 kV3 dc3 pm3 cd3 ct3 oc4 kV4 dc4 pm4 cd4 ct4 oc5 kV5 dc5 pm5 cd5 ct5 oc6 kV6 dc6 pm6 cd6 ct6 oc7 kV7 dc7 pm7 cd7 ct7 oc8 kV8 dc8 pm8 cd8 ct8 oc9 kV9 dc9 pm9 cd9 ct9 oc10 kV10 dc10 pm10 cd10 ct10 oc11 kV11 dc11 pm11 cd11 ct11 oc12 kV12 dc12 pm12 cd12 ct12 oc13 kV13 dc13 pm13 cd13 ct13 oc14 kV14 dc14 pm14 cd14 ct14 oc15 kV15 dc15 pm15 cd15 ct15 oc16 kV16 dc16 pm16 cd16 ct16 oc17 kV17 dc17 pm17 cd17 ct17 oc18 kV18 dc18 pm18 cd18 ct18 oc19 kV19 dc19 pm19 cd19 ct19 oc20 kV20 dc20 pm20 cd20 ct20 oc21 kV21 dc21 pm21 cd21 ct21 oc22 kV22 dc22 pm22 cd22 ct22 oc23 kV23 dc23 pm23 cd23 ct23 oc24 kV24 dc24 pm24 cd24 ct24 oc25 kV25 dc25 pm25 cd25 ct25 oc26 kV26 dc26 pm26 cd26 ct26 : Value}
    {od0 an0 od1 an1 od2 an2 od3 an3 od4 an4 od5 an5 od6 an6 od7 an7 od8 an8 od9 an9 od10 an10 od11 an11 od12 an12 od13 an13 od14 an14 od15 an15 od16 an16 od17 an17 od18 an18 od19 an19 od20 an20 od21 an21 od22 an22 od23 an23 od24 an24 od25 an25 od26 an26 : Option Addr}
    {sl0 sl1 sl2 sl3 sl4 sl5 sl6 sl7 sl8 sl9 sl10 sl11 sl12 sl13 sl14 sl15 sl16 sl17 sl18 sl19 sl20 sl21 sl22 sl23 sl24 sl25 sl26 : Array (Option Value)}
    {t_MOST_KEYS t_GREATEST t_DIGITS t_MOST_DIGITS t_MOST_LEVELS : Tok}
    (aC_TextReader : PySem.W.nsIn K mainGlobals "TextReader" = some (some (.ref C_TextReader)))
    (zb_all : PySem.W.nsIn K mainGlobals "all" = some none)
    (zb_bool : PySem.W.nsIn K mainGlobals "bool" = some none)
    (zb_int : PySem.W.nsIn K mainGlobals "int" = some none)
    (zb_isinstance : PySem.W.nsIn K mainGlobals "isinstance" = some none)
    (zb_len : PySem.W.nsIn K mainGlobals "len" = some none)
    (zb_list : PySem.W.nsIn K mainGlobals "list" = some none)
    (zb_max : PySem.W.nsIn K mainGlobals "max" = some none)
    (zb_min : PySem.W.nsIn K mainGlobals "min" = some none)
    (zb_range : PySem.W.nsIn K mainGlobals "range" = some none)
    (zb_set : PySem.W.nsIn K mainGlobals "set" = some none)
    (zb_str : PySem.W.nsIn K mainGlobals "str" = some none)
    (zb_tuple : PySem.W.nsIn K mainGlobals "tuple" = some none)
    (zg_MOST_KEYS : PySem.W.nsIn K mainGlobals "MOST_KEYS" = some (some (.int 24 t_MOST_KEYS)))
    (zg_GREATEST : PySem.W.nsIn K mainGlobals "GREATEST" = some (some (.int 1000000000000000000000000000000 t_GREATEST)))
    (zg_DIGITS : PySem.W.nsIn K mainGlobals "DIGITS" = some (some (.str "0123456789" t_DIGITS)))
    (zg_MOST_DIGITS : PySem.W.nsIn K mainGlobals "MOST_DIGITS" = some (some (.int 31 t_MOST_DIGITS)))
    (zg_MOST_LEVELS : PySem.W.nsIn K mainGlobals "MOST_LEVELS" = some (some (.int 24 t_MOST_LEVELS)))
    (a0 : PySem.W.nsIn K mainGlobals "is_int" = some (some (.ref f0)))
    (l0 : K.lookup f0 = some ⟨oc0, od0, .func (PySem.W.fnOf "is_int" "is_int" (defArgs s_is_int) (defBody s_is_int) (defScope s_is_int) .none kV0 dc0 pm0 an0 cd0 ct0), sl0⟩)
    (c0 : PySem.W.codeIn K cd0 "is_int" = true)
    (k0 : PySem.W.keepIn K (.ref f0) = true)
    (a1 : PySem.W.nsIn K mainGlobals "in_range" = some (some (.ref f1)))
    (l1 : K.lookup f1 = some ⟨oc1, od1, .func (PySem.W.fnOf "in_range" "in_range" (defArgs s_in_range) (defBody s_in_range) (defScope s_in_range) .none kV1 dc1 pm1 an1 cd1 ct1), sl1⟩)
    (c1 : PySem.W.codeIn K cd1 "in_range" = true)
    (k1 : PySem.W.keepIn K (.ref f1) = true)
    (a2 : PySem.W.nsIn K mainGlobals "is_key" = some (some (.ref f2)))
    (l2 : K.lookup f2 = some ⟨oc2, od2, .func (PySem.W.fnOf "is_key" "is_key" (defArgs s_is_key) (defBody s_is_key) (defScope s_is_key) .none kV2 dc2 pm2 an2 cd2 ct2), sl2⟩)
    (c2 : PySem.W.codeIn K cd2 "is_key" = true)
    (k2 : PySem.W.keepIn K (.ref f2) = true)
    (a3 : PySem.W.nsIn K mainGlobals "is_preorder" = some (some (.ref f3)))
    (l3 : K.lookup f3 = some ⟨oc3, od3, .func (PySem.W.fnOf "is_preorder" "is_preorder" (defArgs s_is_preorder) (defBody s_is_preorder) (defScope s_is_preorder) .none kV3 dc3 pm3 an3 cd3 ct3), sl3⟩)
    (c3 : PySem.W.codeIn K cd3 "is_preorder" = true)
    (k3 : PySem.W.keepIn K (.ref f3) = true)
    (a4 : PySem.W.nsIn K mainGlobals "is_tree" = some (some (.ref f4)))
    (l4 : K.lookup f4 = some ⟨oc4, od4, .func (PySem.W.fnOf "is_tree" "is_tree" (defArgs s_is_tree) (defBody s_is_tree) (defScope s_is_tree) .none kV4 dc4 pm4 an4 cd4 ct4), sl4⟩)
    (c4 : PySem.W.codeIn K cd4 "is_tree" = true)
    (k4 : PySem.W.keepIn K (.ref f4) = true)
    (a5 : PySem.W.nsIn K mainGlobals "require_tree" = some (some (.ref f5)))
    (l5 : K.lookup f5 = some ⟨oc5, od5, .func (PySem.W.fnOf "require_tree" "require_tree" (defArgs s_require_tree) (defBody s_require_tree) (defScope s_require_tree) .none kV5 dc5 pm5 an5 cd5 ct5), sl5⟩)
    (c5 : PySem.W.codeIn K cd5 "require_tree" = true)
    (k5 : PySem.W.keepIn K (.ref f5) = true)
    (a6 : PySem.W.nsIn K mainGlobals "parse_number" = some (some (.ref f6)))
    (l6 : K.lookup f6 = some ⟨oc6, od6, .func (PySem.W.fnOf "parse_number" "parse_number" (defArgs s_parse_number) (defBody s_parse_number) (defScope s_parse_number) .none kV6 dc6 pm6 an6 cd6 ct6), sl6⟩)
    (c6 : PySem.W.codeIn K cd6 "parse_number" = true)
    (k6 : PySem.W.keepIn K (.ref f6) = true)
    (a7 : PySem.W.nsIn K mainGlobals "parse_key" = some (some (.ref f7)))
    (l7 : K.lookup f7 = some ⟨oc7, od7, .func (PySem.W.fnOf "parse_key" "parse_key" (defArgs s_parse_key) (defBody s_parse_key) (defScope s_parse_key) .none kV7 dc7 pm7 an7 cd7 ct7), sl7⟩)
    (c7 : PySem.W.codeIn K cd7 "parse_key" = true)
    (k7 : PySem.W.keepIn K (.ref f7) = true)
    (a8 : PySem.W.nsIn K mainGlobals "text_of" = some (some (.ref f8)))
    (l8 : K.lookup f8 = some ⟨oc8, od8, .func (PySem.W.fnOf "text_of" "text_of" (defArgs s_text_of) (defBody s_text_of) (defScope s_text_of) .none kV8 dc8 pm8 an8 cd8 ct8), sl8⟩)
    (c8 : PySem.W.codeIn K cd8 "text_of" = true)
    (k8 : PySem.W.keepIn K (.ref f8) = true)
    (a9 : PySem.W.findIn K (.ref C_TextReader) "__init__" = some (some (.ref f9)))
    (i9 : PySem.W.isFn K (.ref f9) = true)
    (l9 : K.lookup f9 = some ⟨oc9, od9, .func (PySem.W.fnOf "__init__" "TextReader.__init__" (defArgs s_TextReader___init__) (defBody s_TextReader___init__) (defScope s_TextReader___init__) .none kV9 dc9 pm9 an9 cd9 ct9), sl9⟩)
    (c9 : PySem.W.codeIn K cd9 "TextReader.__init__" = true)
    (k9 : PySem.W.keepIn K (.ref f9) = true)
    (a10 : PySem.W.findIn K (.ref C_TextReader) "next_sign" = some (some (.ref f10)))
    (i10 : PySem.W.isFn K (.ref f10) = true)
    (l10 : K.lookup f10 = some ⟨oc10, od10, .func (PySem.W.fnOf "next_sign" "TextReader.next_sign" (defArgs s_TextReader_next_sign) (defBody s_TextReader_next_sign) (defScope s_TextReader_next_sign) .none kV10 dc10 pm10 an10 cd10 ct10), sl10⟩)
    (c10 : PySem.W.codeIn K cd10 "TextReader.next_sign" = true)
    (k10 : PySem.W.keepIn K (.ref f10) = true)
    (a11 : PySem.W.findIn K (.ref C_TextReader) "expect" = some (some (.ref f11)))
    (i11 : PySem.W.isFn K (.ref f11) = true)
    (l11 : K.lookup f11 = some ⟨oc11, od11, .func (PySem.W.fnOf "expect" "TextReader.expect" (defArgs s_TextReader_expect) (defBody s_TextReader_expect) (defScope s_TextReader_expect) .none kV11 dc11 pm11 an11 cd11 ct11), sl11⟩)
    (c11 : PySem.W.codeIn K cd11 "TextReader.expect" = true)
    (k11 : PySem.W.keepIn K (.ref f11) = true)
    (a12 : PySem.W.findIn K (.ref C_TextReader) "read_key" = some (some (.ref f12)))
    (i12 : PySem.W.isFn K (.ref f12) = true)
    (l12 : K.lookup f12 = some ⟨oc12, od12, .func (PySem.W.fnOf "read_key" "TextReader.read_key" (defArgs s_TextReader_read_key) (defBody s_TextReader_read_key) (defScope s_TextReader_read_key) .none kV12 dc12 pm12 an12 cd12 ct12), sl12⟩)
    (c12 : PySem.W.codeIn K cd12 "TextReader.read_key" = true)
    (k12 : PySem.W.keepIn K (.ref f12) = true)
    (a13 : PySem.W.findIn K (.ref C_TextReader) "read_keys" = some (some (.ref f13)))
    (i13 : PySem.W.isFn K (.ref f13) = true)
    (l13 : K.lookup f13 = some ⟨oc13, od13, .func (PySem.W.fnOf "read_keys" "TextReader.read_keys" (defArgs s_TextReader_read_keys) (defBody s_TextReader_read_keys) (defScope s_TextReader_read_keys) .none kV13 dc13 pm13 an13 cd13 ct13), sl13⟩)
    (c13 : PySem.W.codeIn K cd13 "TextReader.read_keys" = true)
    (k13 : PySem.W.keepIn K (.ref f13) = true)
    (a14 : PySem.W.nsIn K mainGlobals "show_tree" = some (some (.ref f14)))
    (l14 : K.lookup f14 = some ⟨oc14, od14, .func (PySem.W.fnOf "show_tree" "show_tree" (defArgs s_show_tree) (defBody s_show_tree) (defScope s_show_tree) .none kV14 dc14 pm14 an14 cd14 ct14), sl14⟩)
    (c14 : PySem.W.codeIn K cd14 "show_tree" = true)
    (k14 : PySem.W.keepIn K (.ref f14) = true)
    (a15 : PySem.W.nsIn K mainGlobals "read_tree" = some (some (.ref f15)))
    (l15 : K.lookup f15 = some ⟨oc15, od15, .func (PySem.W.fnOf "read_tree" "read_tree" (defArgs s_read_tree) (defBody s_read_tree) (defScope s_read_tree) .none kV15 dc15 pm15 an15 cd15 ct15), sl15⟩)
    (c15 : PySem.W.codeIn K cd15 "read_tree" = true)
    (k15 : PySem.W.keepIn K (.ref f15) = true)
    (a16 : PySem.W.nsIn K mainGlobals "_law_fount" = some (some (.ref f16)))
    (l16 : K.lookup f16 = some ⟨oc16, od16, .func (PySem.W.fnOf "_law_fount" "_law_fount" (defArgs s__law_fount) (defBody s__law_fount) (defScope s__law_fount) .none kV16 dc16 pm16 an16 cd16 ct16), sl16⟩)
    (c16 : PySem.W.codeIn K cd16 "_law_fount" = true)
    (k16 : PySem.W.keepIn K (.ref f16) = true)
    (a17 : PySem.W.nsIn K mainGlobals "_law_sip" = some (some (.ref f17)))
    (l17 : K.lookup f17 = some ⟨oc17, od17, .func (PySem.W.fnOf "_law_sip" "_law_sip" (defArgs s__law_sip) (defBody s__law_sip) (defScope s__law_sip) .none kV17 dc17 pm17 an17 cd17 ct17), sl17⟩)
    (c17 : PySem.W.codeIn K cd17 "_law_sip" = true)
    (k17 : PySem.W.keepIn K (.ref f17) = true)
    (a18 : PySem.W.nsIn K mainGlobals "_law_mixed" = some (some (.ref f18)))
    (l18 : K.lookup f18 = some ⟨oc18, od18, .func (PySem.W.fnOf "_law_mixed" "_law_mixed" (defArgs s__law_mixed) (defBody s__law_mixed) (defScope s__law_mixed) .none kV18 dc18 pm18 an18 cd18 ct18), sl18⟩)
    (c18 : PySem.W.codeIn K cd18 "_law_mixed" = true)
    (k18 : PySem.W.keepIn K (.ref f18) = true)
    (a19 : PySem.W.nsIn K mainGlobals "_law_node" = some (some (.ref f19)))
    (l19 : K.lookup f19 = some ⟨oc19, od19, .func (PySem.W.fnOf "_law_node" "_law_node" (defArgs s__law_node) (defBody s__law_node) (defScope s__law_node) .none kV19 dc19 pm19 an19 cd19 ct19), sl19⟩)
    (c19 : PySem.W.codeIn K cd19 "_law_node" = true)
    (k19 : PySem.W.keepIn K (.ref f19) = true)
    (a20 : PySem.W.nsIn K mainGlobals "_law_preorder" = some (some (.ref f20)))
    (l20 : K.lookup f20 = some ⟨oc20, od20, .func (PySem.W.fnOf "_law_preorder" "_law_preorder" (defArgs s__law_preorder) (defBody s__law_preorder) (defScope s__law_preorder) .none kV20 dc20 pm20 an20 cd20 ct20), sl20⟩)
    (c20 : PySem.W.codeIn K cd20 "_law_preorder" = true)
    (k20 : PySem.W.keepIn K (.ref f20) = true)
    (a21 : PySem.W.nsIn K mainGlobals "_law_leaf" = some (some (.ref f21)))
    (l21 : K.lookup f21 = some ⟨oc21, od21, .func (PySem.W.fnOf "_law_leaf" "_law_leaf" (defArgs s__law_leaf) (defBody s__law_leaf) (defScope s__law_leaf) .none kV21 dc21 pm21 an21 cd21 ct21), sl21⟩)
    (c21 : PySem.W.codeIn K cd21 "_law_leaf" = true)
    (k21 : PySem.W.keepIn K (.ref f21) = true)
    (a22 : PySem.W.nsIn K mainGlobals "_law_keys" = some (some (.ref f22)))
    (l22 : K.lookup f22 = some ⟨oc22, od22, .func (PySem.W.fnOf "_law_keys" "_law_keys" (defArgs s__law_keys) (defBody s__law_keys) (defScope s__law_keys) .none kV22 dc22 pm22 an22 cd22 ct22), sl22⟩)
    (c22 : PySem.W.codeIn K cd22 "_law_keys" = true)
    (k22 : PySem.W.keepIn K (.ref f22) = true)
    (a23 : PySem.W.nsIn K mainGlobals "_law_grown" = some (some (.ref f23)))
    (l23 : K.lookup f23 = some ⟨oc23, od23, .func (PySem.W.fnOf "_law_grown" "_law_grown" (defArgs s__law_grown) (defBody s__law_grown) (defScope s__law_grown) .none kV23 dc23 pm23 an23 cd23 ct23), sl23⟩)
    (c23 : PySem.W.codeIn K cd23 "_law_grown" = true)
    (k23 : PySem.W.keepIn K (.ref f23) = true)
    (a24 : PySem.W.nsIn K mainGlobals "_law_text" = some (some (.ref f24)))
    (l24 : K.lookup f24 = some ⟨oc24, od24, .func (PySem.W.fnOf "_law_text" "_law_text" (defArgs s__law_text) (defBody s__law_text) (defScope s__law_text) .none kV24 dc24 pm24 an24 cd24 ct24), sl24⟩)
    (c24 : PySem.W.codeIn K cd24 "_law_text" = true)
    (k24 : PySem.W.keepIn K (.ref f24) = true)
    (a25 : PySem.W.nsIn K mainGlobals "_law_same" = some (some (.ref f25)))
    (l25 : K.lookup f25 = some ⟨oc25, od25, .func (PySem.W.fnOf "_law_same" "_law_same" (defArgs s__law_same) (defBody s__law_same) (defScope s__law_same) .none kV25 dc25 pm25 an25 cd25 ct25), sl25⟩)
    (c25 : PySem.W.codeIn K cd25 "_law_same" = true)
    (k25 : PySem.W.keepIn K (.ref f25) = true)
    (a26 : PySem.W.nsIn K mainGlobals "law" = some (some (.ref f26)))
    (l26 : K.lookup f26 = some ⟨oc26, od26, .func (PySem.W.fnOf "law" "law" (defArgs s_law) (defBody s_law) (defScope s_law) .none kV26 dc26 pm26 an26 cd26 ct26), sl26⟩)
    (c26 : PySem.W.codeIn K cd26 "law" = true)
    (k26 : PySem.W.keepIn K (.ref f26) = true)
    (pg_TextReader : PySem.W.plainGet K C_TextReader Str.empty = true)
    (hd_TextReader : PySem.W.hasDictIn K C_TextReader = true)
    (po_TextReader : PySem.W.plainOver K C_TextReader = true)
    (sa_TextReader : PySem.W.findIn K (.ref C_TextReader) "__setattr__" = some (some (.builtin "object.__setattr__")))
    (mk_TextReader : PySem.W.makesIn K C_TextReader = true)
    (kc_TextReader : PySem.W.keepIn K (.ref C_TextReader) = true)
    (n_TextReader_spot : PySem.W.findIn K (.ref C_TextReader) "spot" = some none)
    (n_TextReader_text : PySem.W.findIn K (.ref C_TextReader) "text" = some none) :
    ∃ fd : FuncData, (∀ (s : Shared) (v : Value), BindsTo s fd ⟨[v], []⟩ [("_law_script", v)]) ∧ ∀ base : Heap, K.In base → base.Ns mainGlobals mg → FnOk l.prog w K mg base CX0 40 fa fd ["_law_script"] (spLaw K) := by
  have e := hfa.symm.trans (PySem.W.mg_of X G a26)
  cases e
  have F0 := fun_mk (st := s_is_int) l0 c0 k0
  have b0 := F0.binds (ps := ["value"]) fun _ _ _ _ _ _ us hl => match us, hl with | [_], _ => rfl
  have F1 := fun_mk (st := s_in_range) l1 c1 k1
  have b1 := F1.binds (ps := ["value", "low", "high"]) fun _ _ _ _ _ _ us hl => match us, hl with | [_, _, _], _ => rfl
  have F2 := fun_mk (st := s_is_key) l2 c2 k2
  have b2 := F2.binds (ps := ["value"]) fun _ _ _ _ _ _ us hl => match us, hl with | [_], _ => rfl
  have F3 := fun_mk (st := s_is_preorder) l3 c3 k3
  have b3 := F3.binds (ps := ["keys"]) fun _ _ _ _ _ _ us hl => match us, hl with | [_], _ => rfl
  have F4 := fun_mk (st := s_is_tree) l4 c4 k4
  have b4 := F4.binds (ps := ["value"]) fun _ _ _ _ _ _ us hl => match us, hl with | [_], _ => rfl
  have F5 := fun_mk (st := s_require_tree) l5 c5 k5
  have b5 := F5.binds (ps := ["value"]) fun _ _ _ _ _ _ us hl => match us, hl with | [_], _ => rfl
  have F6 := fun_mk (st := s_parse_number) l6 c6 k6
  have b6 := F6.binds (ps := ["word"]) fun _ _ _ _ _ _ us hl => match us, hl with | [_], _ => rfl
  have F7 := fun_mk (st := s_parse_key) l7 c7 k7
  have b7 := F7.binds (ps := ["word"]) fun _ _ _ _ _ _ us hl => match us, hl with | [_], _ => rfl
  have F8 := fun_mk (st := s_text_of) l8 c8 k8
  have b8 := F8.binds (ps := ["keys"]) fun _ _ _ _ _ _ us hl => match us, hl with | [_], _ => rfl
  have F9 := fun_mk (st := s_TextReader___init__) l9 c9 k9
  have b9 := F9.binds (ps := ["self", "text"]) fun _ _ _ _ _ _ us hl => match us, hl with | [_, _], _ => rfl
  have F10 := fun_mk (st := s_TextReader_next_sign) l10 c10 k10
  have b10 := F10.binds (ps := ["self"]) fun _ _ _ _ _ _ us hl => match us, hl with | [_], _ => rfl
  have F11 := fun_mk (st := s_TextReader_expect) l11 c11 k11
  have b11 := F11.binds (ps := ["self", "sign"]) fun _ _ _ _ _ _ us hl => match us, hl with | [_, _], _ => rfl
  have F12 := fun_mk (st := s_TextReader_read_key) l12 c12 k12
  have b12 := F12.binds (ps := ["self"]) fun _ _ _ _ _ _ us hl => match us, hl with | [_], _ => rfl
  have F13 := fun_mk (st := s_TextReader_read_keys) l13 c13 k13
  have b13 := F13.binds (ps := ["self", "level"]) fun _ _ _ _ _ _ us hl => match us, hl with | [_, _], _ => rfl
  have F14 := fun_mk (st := s_show_tree) l14 c14 k14
  have b14 := F14.binds (ps := ["tree"]) fun _ _ _ _ _ _ us hl => match us, hl with | [_], _ => rfl
  have F15 := fun_mk (st := s_read_tree) l15 c15 k15
  have b15 := F15.binds (ps := ["text"]) fun _ _ _ _ _ _ us hl => match us, hl with | [_], _ => rfl
  have F16 := fun_mk (st := s__law_fount) l16 c16 k16
  have b16 := F16.binds (ps := ["_law_script", "_law_k"]) fun _ _ _ _ _ _ us hl => match us, hl with | [_, _], _ => rfl
  have F17 := fun_mk (st := s__law_sip) l17 c17 k17
  have b17 := F17.binds (ps := ["_law_fount_here", "_law_many"]) fun _ _ _ _ _ _ us hl => match us, hl with | [_, _], _ => rfl
  have F18 := fun_mk (st := s__law_mixed) l18 c18 k18
  have b18 := F18.binds (ps := ["_law_fount_here", "_law_items"]) fun _ _ _ _ _ _ us hl => match us, hl with | [_, _], _ => rfl
  have F19 := fun_mk (st := s__law_node) l19 c19 k19
  have b19 := F19.binds (ps := ["_law_keys_here"]) fun _ _ _ _ _ _ us hl => match us, hl with | [_], _ => rfl
  have F20 := fun_mk (st := s__law_preorder) l20 c20 k20
  have b20 := F20.binds (ps := ["_law_node_here"]) fun _ _ _ _ _ _ us hl => match us, hl with | [_], _ => rfl
  have F21 := fun_mk (st := s__law_leaf) l21 c21 k21
  have b21 := F21.binds (ps := ["_law_node_here", "_law_key"]) fun _ _ _ _ _ _ us hl => match us, hl with | [_, _], _ => rfl
  have F22 := fun_mk (st := s__law_keys) l22 c22 k22
  have b22 := F22.binds (ps := ["_law_fount_here", "_law_count"]) fun _ _ _ _ _ _ us hl => match us, hl with | [_, _], _ => rfl
  have F23 := fun_mk (st := s__law_grown) l23 c23 k23
  have b23 := F23.binds (ps := ["_law_fount_here", "_law_most"]) fun _ _ _ _ _ _ us hl => match us, hl with | [_, _], _ => rfl
  have F24 := fun_mk (st := s__law_text) l24 c24 k24
  have b24 := F24.binds (ps := ["_law_node_here"]) fun _ _ _ _ _ _ us hl => match us, hl with | [_], _ => rfl
  have F25 := fun_mk (st := s__law_same) l25 c25 k25
  have b25 := F25.binds (ps := ["_law_found", "_law_due"]) fun _ _ _ _ _ _ us hl => match us, hl with | [_, _], _ => rfl
  have F26 := fun_mk (st := s_law) l26 c26 k26
  have b26 := F26.binds (ps := ["_law_script"]) fun _ _ _ _ _ _ us hl => match us, hl with | [_], _ => rfl
  have T : Txt K mg ⟨(), C_TextReader⟩ := ⟨PySem.W.mg_none_of X G zb_all, PySem.W.mg_none_of X G zb_bool, PySem.W.mg_none_of X G zb_int, PySem.W.mg_none_of X G zb_isinstance, PySem.W.mg_none_of X G zb_len, PySem.W.mg_none_of X G zb_list, PySem.W.mg_none_of X G zb_max, PySem.W.mg_none_of X G zb_min, PySem.W.mg_none_of X G zb_range, PySem.W.mg_none_of X G zb_set, PySem.W.mg_none_of X G zb_str, PySem.W.mg_none_of X G zb_tuple, ⟨t_MOST_KEYS, PySem.W.mg_of X G zg_MOST_KEYS⟩, ⟨t_GREATEST, PySem.W.mg_of X G zg_GREATEST⟩, ⟨t_DIGITS, PySem.W.mg_of X G zg_DIGITS⟩, ⟨t_MOST_DIGITS, PySem.W.mg_of X G zg_MOST_DIGITS⟩, ⟨t_MOST_LEVELS, PySem.W.mg_of X G zg_MOST_LEVELS⟩, ⟨⟨_, _, F0, PySem.W.mg_of X G a0, b0⟩⟩, ⟨⟨_, _, F1, PySem.W.mg_of X G a1, b1⟩⟩, ⟨⟨_, _, F2, PySem.W.mg_of X G a2, b2⟩⟩, ⟨⟨_, _, F3, PySem.W.mg_of X G a3, b3⟩⟩, ⟨⟨_, _, F4, PySem.W.mg_of X G a4, b4⟩⟩, ⟨⟨_, _, F5, PySem.W.mg_of X G a5, b5⟩⟩, ⟨⟨_, _, F6, PySem.W.mg_of X G a6, b6⟩⟩, ⟨⟨_, _, F7, PySem.W.mg_of X G a7, b7⟩⟩, ⟨⟨_, _, F8, PySem.W.mg_of X G a8, b8⟩⟩, ⟨⟨_, _, F9, PySem.W.mg_of X G aC_TextReader, ⟨mk_TextReader, a9, i9, kc_TextReader⟩, b9⟩⟩, ⟨⟨_, _, F10, ⟨a10, i10, k10⟩, b10⟩⟩, ⟨⟨_, _, F11, ⟨a11, i11, k11⟩, b11⟩⟩, ⟨⟨_, _, F12, ⟨a12, i12, k12⟩, b12⟩⟩, ⟨⟨_, _, F13, ⟨a13, i13, k13⟩, b13⟩⟩, ⟨⟨_, _, F14, PySem.W.mg_of X G a14, b14⟩⟩, ⟨⟨_, _, F15, PySem.W.mg_of X G a15, b15⟩⟩, ⟨⟨_, _, F16, PySem.W.mg_of X G a16, b16⟩⟩, ⟨⟨_, _, F17, PySem.W.mg_of X G a17, b17⟩⟩, ⟨⟨_, _, F18, PySem.W.mg_of X G a18, b18⟩⟩, ⟨⟨_, _, F19, PySem.W.mg_of X G a19, b19⟩⟩, ⟨⟨_, _, F20, PySem.W.mg_of X G a20, b20⟩⟩, ⟨⟨_, _, F21, PySem.W.mg_of X G a21, b21⟩⟩, ⟨⟨_, _, F22, PySem.W.mg_of X G a22, b22⟩⟩, ⟨⟨_, _, F23, PySem.W.mg_of X G a23, b23⟩⟩, ⟨⟨_, _, F24, PySem.W.mg_of X G a24, b24⟩⟩, ⟨⟨_, _, F25, PySem.W.mg_of X G a25, b25⟩⟩, ⟨⟨_, _, F26, PySem.W.mg_of X G a26, b26⟩⟩, ⟨pg_TextReader, hd_TextReader, po_TextReader, sa_TextReader⟩, n_TextReader_spot, n_TextReader_text⟩
  exact ⟨PySem.W.fnOf "law" "law" (defArgs s_law) (defBody s_law) (defScope s_law) .none kV26 dc26 pm26 an26 cd26 ct26, fun s v => .of_eq rfl, fun base _ _ => ok_law T F26⟩
end Rk
open PySem PySem.W PyProof.Rows
set_option maxRecDepth 100000 in
set_option maxHeartbeats 0 in
theorem PySem.Challenge.cw_rocktrees_k56_trees_as_text_holds : PySem.Challenge.rw_rocktrees_k56_trees_as_text.Holds := by
  w_on; o_law; k_head; (case hw => w_witness2)
  k_fill
  refine L2.walk_of (l := PySem.Challenge.rw_rocktrees_k56_trees_as_text) (n := 63) (k := 40) (x := "_law_script") (CX := fun _ => L2.CX0) (sp := fun w => Rk.spLaw _) rfl (by decide) rfl ⟨rfl, by decide, by decide⟩ (fun w h Y => PySem.W.kIn_of Y) ?F (fun _ _ a ns hl _ hS => ⟨a, ns, rfl, hS, hl, fun _ => rfl⟩) (fun _ _ _ _ _ h => h)
  case F =>
    intro w mg fa h KX G hmg
    refine' Rk.all_mk KX G hmg ?aC_TextReader ?zb_all ?zb_bool ?zb_int ?zb_isinstance ?zb_len ?zb_list ?zb_max ?zb_min ?zb_range ?zb_set ?zb_str ?zb_tuple ?zg_MOST_KEYS ?zg_GREATEST ?zg_DIGITS ?zg_MOST_DIGITS ?zg_MOST_LEVELS ?a0 ?l0 ?c0 ?k0 ?a1 ?l1 ?c1 ?k1 ?a2 ?l2 ?c2 ?k2 ?a3 ?l3 ?c3 ?k3 ?a4 ?l4 ?c4 ?k4 ?a5 ?l5 ?c5 ?k5 ?a6 ?l6 ?c6 ?k6 ?a7 ?l7 ?c7 ?k7 ?a8 ?l8 ?c8 ?k8 ?a9 ?i9 ?l9 ?c9 ?k9 ?a10 ?i10 ?l10 ?c10 ?k10 ?a11 ?i11 ?l11 ?c11 ?k11 ?a12 ?i12 ?l12 ?c12 ?k12 ?a13 ?i13 ?l13 ?c13 ?k13 ?a14 ?l14 ?c14 ?k14 ?a15 ?l15 ?c15 ?k15 ?a16 ?l16 ?c16 ?k16 ?a17 ?l17 ?c17 ?k17 ?a18 ?l18 ?c18 ?k18 ?a19 ?l19 ?c19 ?k19 ?a20 ?l20 ?c20 ?k20 ?a21 ?l21 ?c21 ?k21 ?a22 ?l22 ?c22 ?k22 ?a23 ?l23 ?c23 ?k23 ?a24 ?l24 ?c24 ?k24 ?a25 ?l25 ?c25 ?k25 ?a26 ?l26 ?c26 ?k26 ?pg_TextReader ?hd_TextReader ?po_TextReader ?sa_TextReader ?mk_TextReader ?kc_TextReader ?n_TextReader_spot ?n_TextReader_text
    (case aC_TextReader => k_is)
    (case zb_all => k_is)
    (case zb_bool => k_is)
    (case zb_int => k_is)
    (case zb_isinstance => k_is)
    (case zb_len => k_is)
    (case zb_list => k_is)
    (case zb_max => k_is)
    (case zb_min => k_is)
    (case zb_range => k_is)
    (case zb_set => k_is)
    (case zb_str => k_is)
    (case zb_tuple => k_is)
    (case zg_MOST_KEYS => k_is)
    (case zg_GREATEST => k_is)
    (case zg_DIGITS => k_is)
    (case zg_MOST_DIGITS => k_is)
    (case zg_MOST_LEVELS => k_is)
    (case a0 => k_is)
    (case l0 => k_is)
    (case c0 => k_is)
    (case k0 => k_is)
    (case a1 => k_is)
    (case l1 => k_is)
    (case c1 => k_is)
    (case k1 => k_is)
    (case a2 => k_is)
    (case l2 => k_is)
    (case c2 => k_is)
    (case k2 => k_is)
    (case a3 => k_is)
    (case l3 => k_is)
    (case c3 => k_is)
    (case k3 => k_is)
    (case a4 => k_is)
    (case l4 => k_is)
    (case c4 => k_is)
    (case k4 => k_is)
    (case a5 => k_is)
    (case l5 => k_is)
    (case c5 => k_is)
    (case k5 => k_is)
    (case a6 => k_is)
    (case l6 => k_is)
    (case c6 => k_is)
    (case k6 => k_is)
    (case a7 => k_is)
    (case l7 => k_is)
    (case c7 => k_is)
    (case k7 => k_is)
    (case a8 => k_is)
    (case l8 => k_is)
    (case c8 => k_is)
    (case k8 => k_is)
    (case a9 => k_is)
    (case i9 => k_is)
    (case l9 => k_is)
    (case c9 => k_is)
    (case k9 => k_is)
    (case a10 => k_is)
    (case i10 => k_is)
    (case l10 => k_is)
    (case c10 => k_is)
    (case k10 => k_is)
    (case a11 => k_is)
    (case i11 => k_is)
    (case l11 => k_is)
    (case c11 => k_is)
    (case k11 => k_is)
    (case a12 => k_is)
    (case i12 => k_is)
    (case l12 => k_is)
    (case c12 => k_is)
    (case k12 => k_is)
    (case a13 => k_is)
    (case i13 => k_is)
    (case l13 => k_is)
    (case c13 => k_is)
    (case k13 => k_is)
    (case a14 => k_is)
    (case l14 => k_is)
    (case c14 => k_is)
    (case k14 => k_is)
    (case a15 => k_is)
    (case l15 => k_is)
    (case c15 => k_is)
    (case k15 => k_is)
    (case a16 => k_is)
    (case l16 => k_is)
    (case c16 => k_is)
    (case k16 => k_is)
    (case a17 => k_is)
    (case l17 => k_is)
    (case c17 => k_is)
    (case k17 => k_is)
    (case a18 => k_is)
    (case l18 => k_is)
    (case c18 => k_is)
    (case k18 => k_is)
    (case a19 => k_is)
    (case l19 => k_is)
    (case c19 => k_is)
    (case k19 => k_is)
    (case a20 => k_is)
    (case l20 => k_is)
    (case c20 => k_is)
    (case k20 => k_is)
    (case a21 => k_is)
    (case l21 => k_is)
    (case c21 => k_is)
    (case k21 => k_is)
    (case a22 => k_is)
    (case l22 => k_is)
    (case c22 => k_is)
    (case k22 => k_is)
    (case a23 => k_is)
    (case l23 => k_is)
    (case c23 => k_is)
    (case k23 => k_is)
    (case a24 => k_is)
    (case l24 => k_is)
    (case c24 => k_is)
    (case k24 => k_is)
    (case a25 => k_is)
    (case l25 => k_is)
    (case c25 => k_is)
    (case k25 => k_is)
    (case a26 => k_is)
    (case l26 => k_is)
    (case c26 => k_is)
    (case k26 => k_is)
    (case pg_TextReader => k_is)
    (case hd_TextReader => k_is)
    (case po_TextReader => k_is)
    (case sa_TextReader => k_is)
    (case mk_TextReader => k_is)
    (case kc_TextReader => k_is)
    (case n_TextReader_spot => k_is)
    (case n_TextReader_text => k_is)
